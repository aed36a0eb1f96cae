/- Functions of the seat as the logical machine runs them, and the look at each of them (1). Printed by a program. -/
import Derived.Test.YtppeldaebnfmdabGreatEVm3
import Derived.Test.YtppeldaebnfmdabGreatProg
set_option maxRecDepth 100000
namespace Go.Proofs.YtppeldaebnfmdabGreat
open Go.Vm
abbrev mv (d s : Nat) : XOper := ⟨some d, .mov (.t s), none⟩
abbrev ic (d : Nat) (n : Int) : XOper := ⟨some d, .mov (.c (.int .i64 n)), none⟩
abbrev ld (d a s : Nat) : XOper := ⟨some d, .load (some a) (.t s), none⟩
abbrev ln (d s : Nat) : XOper := ⟨some d, .load none (.t s), none⟩
abbrev fa (d o s : Nat) : XOper := ⟨some d, .fadr o (.t s), none⟩
abbrev st (z p s : Nat) : XOper := ⟨none, .store z (.t p) (.t s), none⟩
abbrev ex (d i s : Nat) : XOper := ⟨some d, .ext i (.t s), none⟩
abbrev bx (d s : Nat) : XOper := ⟨some d, .box (.t s), none⟩
abbrev le (d s : Nat) : XOper := ⟨some d, .len (.t s), none⟩
abbrev ia (d z s i : Nat) : XOper := ⟨some d, .iadr z (.t s) (.t i), none⟩
abbrev bt (d : Nat) (o : BinOp) (a b : Nat) : XOper := ⟨some d, .bin o (.t a) (.t b), none⟩
abbrev bc (d : Nat) (o : BinOp) (a : Nat) (n : Int) : XOper := ⟨some d, .bin o (.t a) (.c (.int .i64 n)), none⟩
abbrev ap (d z a b : Nat) : XOper := ⟨some d, .append z (.t a) (.t b), none⟩
abbrev por (d a b : Nat) : XOper := ⟨some d, .pick (.t a) (.c (.bool true)) (.t b), none⟩
abbrev pan (d a b : Nat) : XOper := ⟨some d, .pick (.t a) (.t b) (.c (.bool false)), none⟩
abbrev p1 (d f a : Nat) : XOper := ⟨some d, .call .pur f [(.t a)], none⟩
abbrev p2 (d f a b : Nat) : XOper := ⟨some d, .call .pur f [(.t a), (.t b)], none⟩
abbrev p3 (d f a b c : Nat) : XOper := ⟨some d, .call .pur f [(.t a), (.t b), (.t c)], none⟩
abbrev p4 (d f a b c e : Nat) : XOper := ⟨some d, .call .pur f [(.t a), (.t b), (.t c), (.t e)], none⟩
abbrev z0 : List PV := [.int .i64 0, .int .i64 0, .sl 3 true [], .int .i64 0, .sl 3 true [], .sl 1 true [], .sl 1 true [], .sl 1 true [], .sl 5 true [], .sl 1 true [], .sl 3 true [], .int .i64 0, .sl 3 true []]
abbrev z1 : List PV := [.int .i64 0, .int .i64 0, .sl 3 true [], .int .i64 0, .sl 3 true [], .sl 1 true [], .sl 1 true [], .sl 1 true [], .sl 5 true [], .sl 1 true [], .sl 3 true []]
abbrev z2 : List PV := [.sl 1 true [], .sl 1 true [], .sl 1 true [], .sl 5 true [], .sl 1 true []]
abbrev z3 : List PV := [.int .i64 0, .int .i64 0, .int .i64 0, .int .i64 0, .int .i64 0]
abbrev z4 : List PV := [.sl 1 true [], .sl 1 true [], .sl 1 true []]
abbrev z5 : List PV := [.int .i64 0, .int .i64 0, .int .i64 0]
abbrev z6 : List PV := [.bool false, .int .u64 0, .int .u64 0]
abbrev z7 : List PV := [.int .i64 0, .sl 3 true []]
abbrev z8 : List PV := [.int .i64 0, .int .i64 0]
abbrev z9 : List PV := [.int .i64 0, .int .u64 0]
abbrev ck (x : XFunc) (n : Nat) : Prop := chkFunc Go.Proofs.Tryz.prog (fun _ => true) x n = true
/-- peloton/pelotonlaw18.EeditNames -/
def x3 : XFunc := ⟨0,
(.seq
(.region none [
⟨some 0, .mov (.c (.bool false)), none⟩] [])
(.seq
(.region none [
⟨some 39, .call .pur 4 [], none⟩,
⟨some 1, .alloc z0, none⟩,
st 13 1 39] [1])
(.seq
(.region none [
⟨some 41, .build z0 [], none⟩,
⟨some 42, .build z5 [(0, 1, (.c (.int .i64 (-1))))], none⟩, p2 43 5 41 42, mv 40 43, ex 44 0 40, ex 45 1 40,
⟨some 2, .alloc z0, none⟩,
st 13 2 44, mv 3 45] [1, 3])
(.seq
(.region none [
ld 47 13 1, ⟨some 48, .build z5 [(0, 1, (.c (.int .i64 (-1))))], none⟩, p2 49 5 47 48, mv 46 49, ex 50 0 46, ex 51 1 46,
⟨some 4, .alloc z0, none⟩,
st 13 4 50, mv 5 51] [1, 3, 5])
(.seq
(.region none [
ld 53 13 1, ⟨some 54, .build z5 [(0, 1, (.c (.int .i64 5)))], none⟩, p2 55 5 53 54, mv 52 55, ex 56 0 52, ex 57 1 52,
⟨some 6, .alloc z0, none⟩,
st 13 6 56, mv 7 57] [1, 3, 5, 7])
(.seq
(.region none [
ld 59 13 1, ⟨some 60, .call .pur 6 [(.t 59), (.c (.int .i64 6))], none⟩, mv 58 60, ex 61 0 58, ex 62 1 58,
⟨some 8, .alloc z0, none⟩,
st 13 8 61, mv 9 62] [1, 3, 5, 7, 9])
(.seq
(.region none [
ld 64 13 1, ⟨some 65, .call .pur 6 [(.t 64), (.c (.int .i64 (-1)))], none⟩, mv 63 65, ex 66 0 63, ex 67 1 63,
⟨some 10, .alloc z0, none⟩,
st 13 10 66, mv 11 67] [1, 3, 5, 7, 9, 11])
(.seq
(.region none [
ld 69 13 1, ⟨some 70, .build z5 [(0, 1, (.c (.int .i64 6)))], none⟩, p2 71 7 69 70, mv 68 71, ex 72 0 68, ex 73 1 68,
⟨some 12, .alloc z0, none⟩,
st 13 12 72, mv 13 73] [1, 3, 5, 7, 9, 11, 13])
(.seq
(.region none [
ld 75 13 1, ⟨some 76, .build z5 [(0, 1, (.c (.int .i64 5))), (2, 1, (.c (.int .i64 1048577)))], none⟩, p2 77 7 75 76,
mv 74 77, ex 78 0 74, ex 79 1 74,
⟨some 14, .alloc z0, none⟩,
st 13 14 78, mv 15 79] [1, 3, 5, 7, 9, 11, 13, 15])
(.seq
(.region none [
⟨some 81, .build [.sl 3 true []] [], none⟩, ⟨some 82, .call .pur 9 [(.c (.int .i64 3))], none⟩, p2 83 8 81 82, mv 80 83, ex 84 0 80, ex 85 1 80,
⟨some 16, .alloc z0, none⟩,
st 13 16 84, mv 17 85] [1, 3, 5, 7, 9, 11, 13, 15, 16, 17])
(.seq
(.region none [
ld 87 13 16, ⟨some 88, .build z5 [(0, 1, (.c (.int .i64 9)))], none⟩, p2 89 5 87 88, mv 86 89, ex 90 0 86, ex 91 1 86,
⟨some 18, .alloc z0, none⟩,
st 13 18 90, mv 19 91] [1, 3, 5, 7, 9, 11, 13, 15, 17, 18, 19])
(.seq
(.region none [
ld 93 13 18, ⟨some 94, .call .pur 6 [(.t 93), (.c (.int .i64 9))], none⟩, mv 92 94, ex 95 0 92, ex 96 1 92,
⟨some 20, .alloc z0, none⟩,
st 13 20 95, mv 21 96] [1, 3, 5, 7, 9, 11, 13, 15, 17, 19, 20, 21])
(.seq
(.region none [
ld 98 13 20, ⟨some 99, .call .pur 6 [(.t 98), (.c (.int .i64 9))], none⟩, mv 97 99, ex 100 0 97, ex 101 1 97,
⟨some 22, .alloc z0, none⟩,
st 13 22 100, mv 23 101] [1, 3, 5, 7, 9, 11, 13, 15, 17, 19, 20, 21, 23])
(.seq
(.region none [
ld 102 13 1, ⟨some 103, .call .own 10 [(.t 102)], none⟩,
⟨some 24, .alloc z0, none⟩,
st 13 24 103] [3, 5, 7, 9, 11, 13, 15, 17, 19, 20, 21, 23, 24])
(.seq
(.region none [
fa 104 0 24, fa 105 3 104, fa 106 0 105, ⟨none, .store 1 (.t 106) (.c (.int .i64 1000000)), none⟩] [3, 5, 7, 9, 11, 13, 15, 17, 19, 20, 21, 23, 24])
(.seq
(.region none [
ld 108 13 24, ⟨some 109, .build z5 [(0, 1, (.c (.int .i64 7)))], none⟩, p2 110 5 108 109, mv 107 110, ex 111 0 107,
ex 112 1 107,
⟨some 25, .alloc z0, none⟩,
st 13 25 111, mv 26 112] [3, 5, 7, 9, 11, 13, 15, 17, 19, 20, 21, 23, 26])
(.seq
(.region none [
⟨some 27, .alloc [.sl 3 true []], none⟩] [3, 5, 7, 9, 11, 13, 15, 17, 19, 20, 21, 23, 26, 27])
(.seq
(.seq
(.region none [
ic 28 0] [3, 5, 7, 9, 11, 13, 15, 17, 19, 20, 21, 23, 26, 27, 28])
(.block 0
(.loop [(3, none), (5, none), (7, none), (9, none), (11, none), (13, none), (15, none), (17, none), (19, none), (20, none), (21, none), (23, none), (26, none), (27, none), (28, none), (27, some 1003)]
(.seq
(.seq
(.region none [
mv 113 28, bc 114 .lss 113 64] [3, 5, 7, 9, 11, 13, 15, 17, 19, 20, 21, 23, 26, 27, 28, 114])
(.cond (.t 114)
.skip
(.exit 0)))
(.seq
(.block 1
(.region none [
fa 117 0 27, ln 118 117, mv 119 28, mv 120 28, ⟨some 121, .build z5 [(0, 1, (.t 119)), (1, 1, (.t 120))], none⟩,
⟨some 122, .mkrow 3 1 z5 [(0, (.t 121))], none⟩, ap 123 3 118 122, fa 124 0 27,
st 1 124 123] [3, 5, 7, 9, 11, 13, 15, 17, 19, 20, 21, 23, 26, 27, 28]))
(.region none [
mv 115 28, bc 116 .add 115 1, mv 28 116] [3, 5, 7, 9, 11, 13, 15, 17, 19, 20, 21, 23, 26, 27, 28]))))))
(.seq
(.region (some [0, 0, 3, 7, 15, 15, 0, 95, 255]) [
ld 126 1 27, ⟨some 127, .call .pur 9 [(.c (.int .i64 0))], none⟩, p2 128 8 126 127, mv 125 128, ex 129 0 125, ex 130 1 125,
⟨some 29, .alloc z0, none⟩,
st 13 29 129, mv 30 130] [3, 5, 7, 9, 11, 13, 15, 17, 19, 20, 21, 23, 26, 29, 30])
(.seq
(.region none [
ld 132 13 29, ⟨some 133, .build z5 [(0, 1, (.c (.int .i64 64)))], none⟩, p2 134 5 132 133, mv 131 134, ex 135 0 131,
ex 136 1 131,
⟨some 31, .alloc z0, none⟩,
st 13 31 135, mv 32 136] [3, 5, 7, 9, 11, 13, 15, 17, 19, 20, 21, 23, 26, 29, 30, 32])
(.seq
(.region none [
ld 138 13 29, ⟨some 139, .call .pur 6 [(.t 138), (.c (.int .i64 63))], none⟩, mv 137 139, ex 140 0 137, ex 141 1 137,
⟨some 33, .alloc z0, none⟩,
st 13 33 140, mv 34 141] [3, 5, 7, 9, 11, 13, 15, 17, 19, 20, 21, 23, 26, 30, 32, 33, 34])
(.seq
(.region none [
ld 143 13 33, ⟨some 144, .build z5 [(0, 1, (.c (.int .i64 100)))], none⟩, p2 145 5 143 144, mv 142 145, ex 146 0 142,
ex 147 1 142,
⟨some 35, .alloc z0, none⟩,
st 13 35 146, mv 36 147] [3, 5, 7, 9, 11, 13, 15, 17, 19, 20, 21, 23, 26, 30, 32, 34, 35, 36])
(.seq
(.region none [
ld 149 13 35, p1 150 11 149, mv 148 150, ex 151 0 148, ex 152 1 148, mv 37 151,
mv 38 152] [3, 5, 7, 9, 11, 13, 15, 17, 19, 20, 21, 23, 26, 30, 32, 34, 36, 37, 38])
(.seq
(.region none [
⟨some 153, .call .pur 12 [], none⟩, mv 154 153, ⟨some 155, .mov (.t 17), (some (154, true))⟩,
⟨some 156, .bin .eql (.t 155) (.c (.int .i64 0)), (some (154, true))⟩, pan 157 154 156, mv 158 157, ⟨some 159, .mov (.t 30), (some (158, true))⟩,
⟨some 160, .bin .eql (.t 159) (.c (.int .i64 0)), (some (158, true))⟩, pan 161 158 160, mv 162 161, ⟨some 163, .mov (.t 3), (some (162, true))⟩,
⟨some 164, .bin .eql (.t 163) (.c (.int .i64 8)), (some (162, true))⟩, pan 165 162 164, mv 166 165, ⟨some 167, .mov (.t 5), (some (166, true))⟩,
⟨some 168, .bin .eql (.t 167) (.c (.int .i64 8)), (some (166, true))⟩, pan 169 166 168, mv 170 169, ⟨some 171, .mov (.t 7), (some (170, true))⟩,
⟨some 172, .bin .eql (.t 171) (.c (.int .i64 14)), (some (170, true))⟩, pan 173 170 172, mv 174 173, ⟨some 175, .mov (.t 9), (some (174, true))⟩,
⟨some 176, .bin .eql (.t 175) (.c (.int .i64 6)), (some (174, true))⟩, pan 177 174 176, mv 178 177, ⟨some 179, .mov (.t 11), (some (178, true))⟩,
⟨some 180, .bin .eql (.t 179) (.c (.int .i64 6)), (some (178, true))⟩, pan 181 178 180, mv 182 181, ⟨some 183, .mov (.t 13), (some (182, true))⟩,
⟨some 184, .bin .eql (.t 183) (.c (.int .i64 6)), (some (182, true))⟩, pan 185 182 184, mv 186 185, ⟨some 187, .mov (.t 15), (some (186, true))⟩,
⟨some 188, .bin .eql (.t 187) (.c (.int .i64 8)), (some (186, true))⟩, pan 189 186 188, mv 190 189, ⟨some 191, .mov (.t 19), (some (190, true))⟩,
⟨some 192, .bin .eql (.t 191) (.c (.int .i64 0)), (some (190, true))⟩, pan 193 190 192, mv 194 193, ⟨some 195, .mov (.t 21), (some (194, true))⟩,
⟨some 196, .bin .eql (.t 195) (.c (.int .i64 0)), (some (194, true))⟩, pan 197 194 196, mv 198 197, ⟨some 199, .mov (.t 23), (some (198, true))⟩,
⟨some 200, .bin .eql (.t 199) (.c (.int .i64 6)), (some (198, true))⟩, pan 201 198 200, mv 202 201, ⟨some 203, .mov (.t 26), (some (202, true))⟩,
⟨some 204, .bin .eql (.t 203) (.c (.int .i64 18)), (some (202, true))⟩, pan 205 202 204, mv 206 205, ⟨some 207, .mov (.t 32), (some (206, true))⟩,
⟨some 208, .bin .eql (.t 207) (.c (.int .i64 18)), (some (206, true))⟩, pan 209 206 208, mv 210 209, ⟨some 211, .mov (.t 34), (some (210, true))⟩,
⟨some 212, .bin .eql (.t 211) (.c (.int .i64 0)), (some (210, true))⟩, pan 213 210 212, mv 214 213, ⟨some 215, .mov (.t 36), (some (214, true))⟩,
⟨some 216, .bin .eql (.t 215) (.c (.int .i64 0)), (some (214, true))⟩, pan 217 214 216, mv 218 217, ⟨some 219, .mov (.t 38), (some (218, true))⟩,
⟨some 220, .bin .eql (.t 219) (.c (.int .i64 0)), (some (218, true))⟩, pan 221 218 220, mv 222 221, ⟨some 223, .mov (.t 37), (some (222, true))⟩,
⟨some 224, .bin .eql (.t 223) (.c (.int .i64 62)), (some (222, true))⟩, pan 225 222 224, mv 226 225, ⟨some 227, .fadr 0 (.t 20), (some (226, true))⟩,
⟨some 228, .load (some 11) (.t 227), (some (226, true))⟩, ⟨some 229, .fadr 11 (.t 20), (some (226, true))⟩,
⟨some 230, .load (some 2) (.t 229), (some (226, true))⟩,
⟨some 231, .build z0 [(0, 11, (.t 228)), (11, 2, (.t 230))], (some (226, true))⟩,
⟨some 232, .load (some 13) (.t 20), (some (226, true))⟩, ⟨some 233, .call .pur 13 [(.t 231), (.t 232)], (some (226, true))⟩, pan 234 226 233, mv 235 234,
⟨some 236, .fadr 0 (.t 20), (some (235, true))⟩, ⟨some 237, .fadr 3 (.t 236), (some (235, true))⟩, ⟨some 238, .fadr 1 (.t 237), (some (235, true))⟩,
⟨some 239, .load none (.t 238), (some (235, true))⟩, ⟨some 240, .len (.t 239), (some (235, true))⟩,
⟨some 241, .bin .eql (.t 240) (.c (.int .i64 0)), (some (235, true))⟩, pan 242 235 241, mv 243 242, ⟨some 244, .fadr 11 (.t 20), (some (243, true))⟩,
⟨some 245, .fadr 0 (.t 244), (some (243, true))⟩, ⟨some 246, .load none (.t 245), (some (243, true))⟩,
⟨some 247, .bin .eql (.t 246) (.c (.int .i64 (-1))), (some (243, true))⟩, pan 248 243 247, mv 0 248] [0])
.ret)))))))))))))))))))))))),
[.tmp 0]⟩
theorem x3_ok : ck x3 3 := by decide +kernel
/-- peloton/pelotonlaw18.given -/
def x4 : XFunc := ⟨0,
(.seq
(.region none [
⟨some 0, .alloc z0, none⟩] [0])
(.seq
(.region none [
⟨some 4, .build z5 [(0, 1, (.c (.int .i64 1))), (1, 1, (.c (.int .i64 0))), (2, 1, (.c (.int .i64 2)))], none⟩,
⟨some 5, .build z5 [(0, 1, (.c (.int .i64 2))), (1, 1, (.c (.int .i64 6))), (2, 1, (.c (.int .i64 (-1))))], none⟩,
⟨some 6, .build z5 [(0, 1, (.c (.int .i64 5))), (1, 1, (.c (.int .i64 0))), (2, 1, (.c (.int .i64 0)))], none⟩,
⟨some 7, .mkrow 3 3 z5 [(0, (.t 4)), (1, (.t 5)), (2, (.t 6))], none⟩,
⟨some 8, .build [.sl 3 true []] [(0, 1, (.t 7))], none⟩, ⟨some 1, .alloc [.sl 3 true []], none⟩, st 1 1 8] [0, 1])
(.seq
(.region (some [0, 0, 3, 7, 15, 15, 0, 95, 255]) [
ld 10 1 1, ⟨some 11, .call .pur 9 [(.c (.int .i64 2))], none⟩, p2 12 8 10 11, mv 9 12, ex 13 0 9, ex 14 1 9,
⟨some 2, .alloc z0, none⟩,
st 13 2 13, mv 3 14] [0, 2])
(.seq
(.region none [
ld 15 13 2, st 13 0 15] [0])
.ret)))),
[.cell 0 (some 13)]⟩
theorem x4_ok : ck x4 4 := by decide +kernel
/-- peloton/eedit.Put -/
def x5 : XFunc := ⟨2,
(.seq
(.region none [
bx 2 0, bx 3 1,
⟨some 4, .alloc z0, none⟩,
ic 5 0] [2, 3, 4])
(.seq
(.region none [
ld 6 13 2, ⟨some 7, .mkf 15 [] [(.t 3)], none⟩, p2 8 14 6 7, ex 9 0 8, ex 10 1 8, st 13 4 9, mv 5 10] [4, 5])
.ret)),
[.cell 4 (some 13), .tmp 5]⟩
theorem x5_ok : ck x5 5 := by decide +kernel
/-- peloton/eedit.Take -/
def x6 : XFunc := ⟨2,
(.seq
(.region none [
bx 2 0, bx 3 1,
⟨some 4, .alloc z0, none⟩,
ic 5 0] [2, 3, 4])
(.seq
(.region none [
ld 6 13 2, ⟨some 7, .mkf 17 [] [(.t 3)], none⟩, p2 8 14 6 7, ex 9 0 8, ex 10 1 8, st 13 4 9, mv 5 10] [4, 5])
.ret)),
[.cell 4 (some 13), .tmp 5]⟩
theorem x6_ok : ck x6 6 := by decide +kernel
/-- peloton/eedit.Change -/
def x7 : XFunc := ⟨2,
(.seq
(.region none [
bx 2 0, bx 3 1,
⟨some 4, .alloc z0, none⟩,
ic 5 0] [2, 3, 4])
(.seq
(.region none [
ld 6 13 2, ⟨some 7, .mkf 19 [] [(.t 3)], none⟩, p2 8 14 6 7, ex 9 0 8, ex 10 1 8, st 13 4 9, mv 5 10] [4, 5])
.ret)),
[.cell 4 (some 13), .tmp 5]⟩
theorem x7_ok : ck x7 7 := by decide +kernel
/-- peloton/pelotonref17.Build -/
def x8 : XFunc := ⟨2,
(.seq
(.region none [
bx 2 0, bx 3 1,
⟨some 4, .alloc z0, none⟩,
ic 5 0] [2, 3, 4])
(.seq
(.seq
(.region none [
ld 6 1 2, p1 7 21 6, bc 8 .neq 7 0] [2, 3, 4, 8])
(.cond (.t 8)
(.seq
(.region none [
⟨some 9, .build z0 [], none⟩,
ld 10 1 2, p1 11 21 10, st 13 4 9, mv 5 11] [4, 5])
.ret)
.skip))
(.seq
(.seq
(.region none [
ld 12 2 3, p1 13 22 12, bc 14 .neq 13 0] [2, 3, 4, 14])
(.cond (.t 14)
(.seq
(.region none [
⟨some 15, .build z0 [], none⟩,
st 13 4 15, ic 5 8] [4, 5])
.ret)
.skip))
(.seq
(.region (some [0, 0, 3, 0, 15, 31, 31, 127, 255]) [
ld 16 1 2, ld 17 2 3, p2 18 24 16 17, ld 19 1 2, p2 20 23 18 19, ex 21 0 20, ex 22 1 20, st 13 4 21, mv 5 22] [4, 5])
.ret)))),
[.cell 4 (some 13), .tmp 5]⟩
theorem x8_ok : ck x8 8 := by decide +kernel
/-- peloton/pelotonlaw18.at -/
def x9 : XFunc := ⟨1,
(.seq
(.region none [
⟨some 2, .alloc z8, none⟩] [0, 2])
(.seq
(.region none [
mv 3 0, ⟨some 4, .build z8 [(0, 1, (.t 3)), (1, 1, (.c (.int .i64 1)))], none⟩, st 2 2 4] [2])
.ret)),
[.cell 2 (some 2)]⟩
theorem x9_ok : ck x9 9 := by decide +kernel
/-- peloton/pelotonref17.Twin -/
def x10 : XFunc := ⟨1,
(.seq
(.region none [
bx 1 0,
⟨some 2, .alloc z0, none⟩] [1, 2])
(.seq
(.region (some [0, 1, 3, 0, 8, 31, 63, 127]) [
fa 3 0 1, ld 4 11 3, ⟨some 5, .call .own 25 [(.t 4)], none⟩, fa 6 11 1, ld 7 2 6, ⟨some 8, .call .own 26 [(.t 7)], none⟩,
⟨some 9, .build z0 [(0, 11, (.t 5)), (11, 2, (.t 8))], none⟩,
st 13 2 9] [2])
.ret)),
[.cell 2 (some 13)]⟩
theorem x10_ok : ck x10 10 := by decide +kernel
/-- peloton/heater.Leader -/
def x11 : XFunc := ⟨1,
(.seq
(.region none [
bx 1 0, ic 2 0, ic 3 0] [1])
(.seq
(.seq
(.region none [
ld 5 13 1, p1 6 27 5, mv 4 6] [1, 4])
(.seq
(.region none [
mv 7 4, bc 8 .neq 7 0] [1, 4, 8])
(.cond (.t 8)
(.seq
(.region none [
mv 9 4, ic 2 0, mv 3 9] [2, 3])
.ret)
.skip)))
(.seq
(.seq
(.region none [
fa 10 11 1, fa 11 0 10, ln 12 11, bc 13 .lss 12 0] [1, 13])
(.cond (.t 13)
(.seq
(.region none [
ic 2 0, ic 3 42] [2, 3])
.ret)
.skip))
(.seq
(.region none [
fa 14 11 1, fa 15 1 14, ln 16 15, fa 17 11 1, fa 18 0 17, ln 19 18, ia 20 3 16 19, fa 21 0 20, ln 22 21, mv 2 22, ic 3 0] [2, 3])
.ret)))),
[.tmp 2, .tmp 3]⟩
theorem x11_ok : ck x11 11 := by decide +kernel
/-- peloton/pelotonlaw18.alive -/
def x12 : XFunc := ⟨0,
(.seq
(.region none [
⟨some 0, .mov (.c (.bool false)), none⟩] [])
(.seq
(.region none [
⟨some 6, .call .pur 4 [], none⟩,
⟨some 7, .build z5 [(0, 1, (.c (.int .i64 7))), (1, 1, (.c (.int .i64 9))), (2, 1, (.c (.int .i64 (-1))))], none⟩,
p2 8 5 6 7, mv 5 8, ex 9 0 5, ex 10 1 5,
⟨some 1, .alloc z0, none⟩,
st 13 1 9, mv 2 10] [1, 2])
(.seq
(.region none [
ld 12 13 1, ⟨some 13, .call .pur 6 [(.t 12), (.c (.int .i64 7))], none⟩, mv 11 13, ex 14 0 11, ex 15 1 11,
⟨some 3, .alloc z0, none⟩,
st 13 3 14, mv 4 15] [1, 2, 3, 4])
(.seq
(.region (some [0, 1, 3, 7, 15, 31, 63, 127, 255, 511, 1023, 2047, 4095, 8191, 16383, 32767, 65535, 131071, 262143, 524287, 1048575, 2097151, 4194303, 8388607, 16777215, 33554431, 67108863, 134217727, 268435455, 536870911, 1073741823, 2147483647, 4294967295, 8589934591, 17179869183, 34359738367, 68719476735, 137438953471, 274877906943, 549755813887, 1099511627775, 2199023255551, 4398046511103, 8796093022207, 4398046511103, 21990232555519, 70368744177663, 140737488355327, 281474976710655]) [
mv 16 2, bc 17 .eql 16 0, mv 18 17, ⟨some 19, .mov (.t 4), (some (18, true))⟩, ⟨some 20, .bin .eql (.t 19) (.c (.int .i64 0)), (some (18, true))⟩, pan 21 18 20,
mv 22 21, ⟨some 23, .fadr 11 (.t 1), (some (22, true))⟩, ⟨some 24, .fadr 1 (.t 23), (some (22, true))⟩, ⟨some 25, .load none (.t 24), (some (22, true))⟩,
⟨some 26, .len (.t 25), (some (22, true))⟩, ⟨some 27, .bin .eql (.t 26) (.c (.int .i64 4)), (some (22, true))⟩, pan 28 22 27, mv 29 28,
⟨some 30, .fadr 11 (.t 1), (some (29, true))⟩, ⟨some 31, .fadr 0 (.t 30), (some (29, true))⟩, ⟨some 32, .load none (.t 31), (some (29, true))⟩,
⟨some 33, .bin .eql (.t 32) (.c (.int .i64 3)), (some (29, true))⟩, pan 34 29 33, mv 35 34, ⟨some 36, .fadr 11 (.t 1), (some (35, true))⟩,
⟨some 37, .fadr 1 (.t 36), (some (35, true))⟩, ⟨some 38, .load none (.t 37), (some (35, true))⟩,
⟨some 39, .iadr 3 (.t 38) (.c (.int .i64 3)), (some (35, true))⟩, ⟨some 40, .fadr 1 (.t 39), (some (35, true))⟩,
⟨some 41, .load none (.t 40), (some (35, true))⟩, ⟨some 42, .bin .eql (.t 41) (.c (.int .i64 0)), (some (35, true))⟩, pan 43 35 42, mv 44 43,
⟨some 45, .fadr 11 (.t 3), (some (44, true))⟩, ⟨some 46, .fadr 1 (.t 45), (some (44, true))⟩, ⟨some 47, .load none (.t 46), (some (44, true))⟩,
⟨some 48, .len (.t 47), (some (44, true))⟩, ⟨some 49, .bin .eql (.t 48) (.c (.int .i64 3)), (some (44, true))⟩, pan 50 44 49, mv 51 50,
⟨some 52, .fadr 11 (.t 3), (some (51, true))⟩, ⟨some 53, .fadr 0 (.t 52), (some (51, true))⟩, ⟨some 54, .load none (.t 53), (some (51, true))⟩,
⟨some 55, .bin .eql (.t 54) (.c (.int .i64 0)), (some (51, true))⟩, pan 56 51 55, mv 57 56, ⟨some 58, .fadr 11 (.t 3), (some (57, true))⟩,
⟨some 59, .load (some 2) (.t 58), (some (57, true))⟩, ⟨some 60, .call .pur 4 [], (some (57, true))⟩, ⟨some 61, .fld (some 2) 11 (.t 60), (some (57, true))⟩,
⟨some 62, .call .pur 28 [(.t 59), (.t 61)], (some (57, true))⟩, pan 63 57 62, mv 0 63] [0])
.ret)))),
[.tmp 0]⟩
theorem x12_ok : ck x12 12 := by decide +kernel
/-- peloton/pelotonref17.Same -/
def x13 : XFunc := ⟨2,
(.seq
(.region none [
bx 2 0, bx 3 1, ⟨some 4, .mov (.c (.bool false)), none⟩] [2, 3])
(.seq
(.region none [
fa 5 0 2, ld 6 11 5, fa 7 0 3, ld 8 11 7, p2 9 29 6 8, mv 10 9, ⟨some 11, .fadr 11 (.t 2), (some (10, true))⟩,
⟨some 12, .load (some 2) (.t 11), (some (10, true))⟩, ⟨some 13, .fadr 11 (.t 3), (some (10, true))⟩, ⟨some 14, .load (some 2) (.t 13), (some (10, true))⟩,
⟨some 15, .call .pur 28 [(.t 12), (.t 14)], (some (10, true))⟩, pan 16 10 15, mv 4 16] [4])
.ret)),
[.tmp 4]⟩
theorem x13_ok : ck x13 13 := by decide +kernel
/-- peloton/eedit.changed -/
def x14 : XFunc := ⟨2,
(.seq
(.region none [
bx 2 0,
⟨some 4, .alloc z0, none⟩,
ic 5 0] [1, 2, 4])
(.seq
(.seq
(.region none [
ld 12 13 2, p1 13 27 12, mv 6 13] [1, 2, 4, 6])
(.seq
(.region none [
mv 14 6, bc 15 .neq 14 0] [1, 2, 4, 6, 15])
(.cond (.t 15)
(.seq
(.region none [
⟨some 16, .build z0 [], none⟩,
mv 17 6, st 13 4 16, mv 5 17] [4, 5])
.ret)
.skip)))
(.seq
(.region none [
mv 19 1, fa 20 0 2, fa 21 2 20, ld 22 1 21, ⟨some 23, .callv (.t 19) [(.t 22)], none⟩, mv 18 23, ex 24 0 18, ex 25 1 18, ⟨some 7, .alloc [.sl 3 true []], none⟩,
st 1 7 24, mv 8 25] [2, 4, 7, 8])
(.seq
(.seq
(.region none [
mv 26 8, bc 27 .neq 26 0] [2, 4, 7, 8, 27])
(.cond (.t 27)
(.seq
(.region none [
⟨some 28, .build z0 [], none⟩,
mv 29 8, st 13 4 28, mv 5 29] [4, 5])
.ret)
.skip))
(.seq
(.region none [
ld 31 1 7, fa 32 0 2, fa 33 0 32, ld 34 2 33, p2 35 30 31 34, mv 30 35, ex 36 0 30, ex 37 1 30, ⟨some 9, .alloc z7, none⟩, st 2 9 36,
mv 10 37] [2, 4, 7, 9])
(.seq
(.region (some [0, 1, 0, 0, 8, 31, 63, 127, 127, 0, 767, 2047]) [
fa 39 0 2, ld 40 11 39, ld 41 1 7, ld 42 2 9, p1 43 32 42, p3 44 31 40 41 43, mv 38 44, ex 45 0 38, ex 46 1 38,
⟨some 11, .alloc z1, none⟩,
st 11 11 45, mv 8 46] [4, 8, 9, 11])
(.seq
(.seq
(.region none [
mv 47 8, bc 48 .neq 47 0] [4, 8, 9, 11, 48])
(.cond (.t 48)
(.seq
(.region none [
⟨some 49, .build z0 [], none⟩,
mv 50 8, st 13 4 49, mv 5 50] [4, 5])
.ret)
.skip))
(.seq
(.region none [
ld 51 11 11, ld 52 2 9,
⟨some 53, .build z0 [(0, 11, (.t 51)), (11, 2, (.t 52))], none⟩,
st 13 4 53, ic 5 0] [4, 5])
.ret)))))))),
[.cell 4 (some 13), .tmp 5]⟩
theorem x14_ok : ck x14 14 := by decide +kernel
/-- peloton/eedit.Put$1 -/
def x15 : XFunc := ⟨2,
(.seq
(.region none [
bx 2 0, ⟨some 3, .alloc [.sl 3 true []], none⟩, ic 4 0] [1, 2, 3])
(.seq
(.region none [
ld 5 1 2, ld 6 3 1, p2 7 16 5 6, ex 8 0 7, ex 9 1 7, st 1 3 8, mv 4 9] [3, 4])
.ret)),
[.cell 3 (some 1), .tmp 4]⟩
theorem x15_ok : ck x15 15 := by decide +kernel
/-- peloton/field.Put -/
def x16 : XFunc := ⟨2,
(.seq
(.region none [
bx 2 0, bx 3 1, ⟨some 4, .alloc [.sl 3 true []], none⟩, ic 5 0] [2, 3, 4])
(.seq
(.seq
(.region none [
ld 10 1 2, p1 11 33 10, mv 6 11] [2, 3, 4, 6])
(.seq
(.region none [
mv 12 6, bc 13 .neq 12 0] [2, 3, 4, 6, 13])
(.cond (.t 13)
(.seq
(.region none [
⟨some 14, .build [.sl 3 true []] [], none⟩, mv 15 6, st 1 4 14, mv 5 15] [4, 5])
.ret)
.skip)))
(.seq
(.seq
(.region none [
ld 16 3 3, p1 17 34 16, mv 7 17] [2, 3, 4, 7])
(.seq
(.region none [
mv 18 7, bc 19 .neq 18 0] [2, 3, 4, 7, 19])
(.cond (.t 19)
(.seq
(.region none [
⟨some 20, .build [.sl 3 true []] [], none⟩, mv 21 7, st 1 4 20, mv 5 21] [4, 5])
.ret)
.skip)))
(.seq
(.region none [
ld 23 1 2, fa 24 0 3, ln 25 24, p2 26 35 23 25, mv 22 26, ex 27 0 22, ex 28 1 22, mv 8 27, mv 9 28] [2, 3, 4, 8, 9])
(.seq
(.seq
(.region none [
mv 29 9] [2, 3, 4, 8, 29])
(.cond (.t 29)
(.seq
(.region none [
⟨some 30, .build [.sl 3 true []] [], none⟩, st 1 4 30, ic 5 14] [4, 5])
.ret)
.skip))
(.seq
(.seq
(.region none [
fa 31 0 2, ln 32 31, le 33 32, bc 34 .eql 33 64] [2, 3, 4, 8, 34])
(.cond (.t 34)
(.seq
(.region none [
⟨some 35, .build [.sl 3 true []] [], none⟩, st 1 4 35, ic 5 18] [4, 5])
.ret)
.skip))
(.seq
(.region (some [0, 1, 3, 0, 0, 16, 63, 127, 255, 511]) [
fa 36 0 2, ln 37 36, p1 38 37 37, mv 39 8, ld 40 3 3, ⟨some 41, .mkrow 3 1 z5 [(0, (.t 40))], none⟩,
⟨some 42, .call .shr 36 [(.t 38), (.t 39), (.t 41)], none⟩, ⟨some 43, .build [.sl 3 true []] [(0, 1, (.t 42))], none⟩, st 1 4 43, ic 5 0] [4, 5])
.ret))))))),
[.cell 4 (some 1), .tmp 5]⟩
theorem x16_ok : ck x16 16 := by decide +kernel
/-- peloton/eedit.Take$1 -/
def x17 : XFunc := ⟨2,
(.seq
(.region none [
bx 2 0, ⟨some 3, .alloc [.sl 3 true []], none⟩, ic 4 0] [1, 2, 3])
(.seq
(.region none [
ld 5 1 2, ln 6 1, p2 7 18 5 6, ex 8 0 7, ex 9 1 7, st 1 3 8, mv 4 9] [3, 4])
.ret)),
[.cell 3 (some 1), .tmp 4]⟩
theorem x17_ok : ck x17 17 := by decide +kernel
/-- peloton/field.Take -/
def x18 : XFunc := ⟨2,
(.seq
(.region none [
bx 2 0, ⟨some 4, .alloc [.sl 3 true []], none⟩, ic 5 0] [1, 2, 4])
(.seq
(.region none [
ld 9 1 2, mv 10 1, p2 11 38 9 10, mv 8 11, ex 12 0 8, ex 13 1 8, mv 6 12, mv 7 13] [2, 4, 6, 7])
(.seq
(.seq
(.region none [
mv 14 7, bc 15 .neq 14 0] [2, 4, 6, 7, 15])
(.cond (.t 15)
(.seq
(.region none [
⟨some 16, .build [.sl 3 true []] [], none⟩, mv 17 7, st 1 4 16, mv 5 17] [4, 5])
.ret)
.skip))
(.seq
(.region none [
fa 18 0 2, ln 19 18, p1 20 37 19, mv 21 6, mv 22 6, bc 23 .add 22 1, ⟨some 24, .call .fp 39 [(.t 20), (.t 21), (.t 23)], none⟩,
⟨some 25, .build [.sl 3 true []] [(0, 1, (.t 24))], none⟩, st 1 4 25, ic 5 0] [4, 5])
.ret)))),
[.cell 4 (some 1), .tmp 5]⟩
theorem x18_ok : ck x18 18 := by decide +kernel
/-- peloton/eedit.Change$1 -/
def x19 : XFunc := ⟨2,
(.seq
(.region none [
bx 2 0, ⟨some 3, .alloc [.sl 3 true []], none⟩, ic 4 0] [1, 2, 3])
(.seq
(.region none [
ld 5 1 2, ld 6 3 1, p2 7 20 5 6, ex 8 0 7, ex 9 1 7, st 1 3 8, mv 4 9] [3, 4])
.ret)),
[.cell 3 (some 1), .tmp 4]⟩
theorem x19_ok : ck x19 19 := by decide +kernel
/-- peloton/field.Change -/
def x20 : XFunc := ⟨2,
(.seq
(.region none [
bx 2 0, bx 3 1, ⟨some 4, .alloc [.sl 3 true []], none⟩, ic 5 0] [2, 3, 4])
(.seq
(.seq
(.region none [
ld 11 1 2, p1 12 33 11, mv 6 12] [2, 3, 4, 6])
(.seq
(.region none [
mv 13 6, bc 14 .neq 13 0] [2, 3, 4, 6, 14])
(.cond (.t 14)
(.seq
(.region none [
⟨some 15, .build [.sl 3 true []] [], none⟩, mv 16 6, st 1 4 15, mv 5 16] [4, 5])
.ret)
.skip)))
(.seq
(.seq
(.region none [
ld 17 3 3, p1 18 34 17, mv 7 18] [2, 3, 4, 7])
(.seq
(.region none [
mv 19 7, bc 20 .neq 19 0] [2, 3, 4, 7, 20])
(.cond (.t 20)
(.seq
(.region none [
⟨some 21, .build [.sl 3 true []] [], none⟩, mv 22 7, st 1 4 21, mv 5 22] [4, 5])
.ret)
.skip)))
(.seq
(.region none [
ld 24 1 2, fa 25 0 3, ln 26 25, p2 27 38 24 26, mv 23 27, ex 28 0 23, ex 29 1 23, mv 8 28, mv 9 29] [2, 3, 4, 8, 9])
(.seq
(.seq
(.region none [
mv 30 9, bc 31 .neq 30 0] [2, 3, 4, 8, 9, 31])
(.cond (.t 31)
(.seq
(.region none [
⟨some 32, .build [.sl 3 true []] [], none⟩, mv 33 9, st 1 4 32, mv 5 33] [4, 5])
.ret)
.skip))
(.seq
(.region none [
fa 34 0 2, ln 35 34, p1 36 37 35, mv 10 36] [3, 4, 8, 10])
(.seq
(.region none [
mv 37 10, mv 38 8, ld 39 3 3, ia 40 3 37 38, st 3 40 39] [4, 10])
(.seq
(.region none [
mv 41 10, ⟨some 42, .build [.sl 3 true []] [(0, 1, (.t 41))], none⟩, st 1 4 42, ic 5 0] [4, 5])
.ret)))))))),
[.cell 4 (some 1), .tmp 5]⟩
theorem x20_ok : ck x20 20 := by decide +kernel
/-- peloton/pelotonref03.Check -/
def x21 : XFunc := ⟨1,
(.seq
(.region none [
bx 1 0, ic 2 0] [1])
(.seq
(.seq
(.region none [
fa 5 0 1, ln 6 5, le 7 6, bc 8 .gtr 7 64] [1, 8])
(.cond (.t 8)
(.seq
(.region none [
ic 2 4] [2])
.ret)
.skip))
(.seq
(.seq
(.region none [
ic 3 0] [1, 3])
(.block 0
(.loop [(1, none), (3, none)]
(.seq
(.seq
(.region none [
mv 9 3, fa 10 0 1, ln 11 10, le 12 11, bt 13 .lss 9 12] [1, 3, 13])
(.cond (.t 13)
.skip
(.exit 0)))
(.seq
(.block 1
(.seq
(.region none [
fa 16 0 1, ln 17 16, mv 18 3, ia 19 3 17 18, ld 20 3 19, p1 21 40 20, bc 22 .neq 21 0] [1, 3, 22])
(.cond (.t 22)
(.seq
(.region none [
ic 2 8] [2])
.ret)
.skip)))
(.region none [
mv 14 3, bc 15 .add 14 1, mv 3 15] [1, 3]))))))
(.seq
(.seq
(.region none [
ic 4 1] [1, 4])
(.block 2
(.loop [(1, none), (4, none)]
(.seq
(.seq
(.region none [
mv 23 4, fa 24 0 1, ln 25 24, le 26 25, bt 27 .lss 23 26] [1, 4, 27])
(.cond (.t 27)
.skip
(.exit 2)))
(.seq
(.block 3
(.seq
(.region (some [0, 1, 0, 4, 15, 31, 63, 0, 128, 0, 896, 1920, 3968, 8191]) [
fa 30 0 1, ln 31 30, mv 32 4, bc 33 .sub 32 1, ia 34 3 31 33, fa 35 0 34, ln 36 35, fa 37 0 1, ln 38 37, mv 39 4, ia 40 3 38 39, fa 41 0 40, ln 42 41,
bt 43 .geq 36 42] [1, 4, 43])
(.cond (.t 43)
(.seq
(.region none [
ic 2 32] [2])
.ret)
.skip)))
(.region none [
mv 28 4, bc 29 .add 28 1, mv 4 29] [1, 4]))))))
(.seq
(.region none [
ic 2 0] [2])
.ret))))),
[.tmp 2]⟩
theorem x21_ok : ck x21 21 := by decide +kernel
/-- peloton/pelotonref01.Check -/
def x22 : XFunc := ⟨1,
(.seq
(.region none [
bx 1 0, ic 2 0] [1])
(.seq
(.seq
(.region (some [0, 1, 3, 7, 15, 31, 63, 127, 255, 511, 1023, 2047, 511, 4607, 12799, 32767, 65535, 131071]) [
fa 3 1 1, ln 4 3, bc 5 .lss 4 1, mv 6 5, ⟨some 7, .fadr 0 (.t 1), (some (6, false))⟩, ⟨some 8, .load none (.t 7), (some (6, false))⟩,
⟨some 9, .bin .eql (.t 8) (.c (.int .i64 (-9223372036854775808))), (some (6, false))⟩, por 10 6 9, mv 11 10, ⟨some 12, .fadr 0 (.t 1), (some (11, false))⟩,
⟨some 13, .load none (.t 12), (some (11, false))⟩, ⟨some 14, .call .pur 42 [(.t 13)], (some (11, false))⟩, ⟨some 15, .fadr 1 (.t 1), (some (11, false))⟩,
⟨some 16, .load none (.t 15), (some (11, false))⟩, ⟨some 17, .conv .u64 (.t 16), (some (11, false))⟩,
⟨some 18, .call .pur 41 [(.t 14), (.t 17)], (some (11, false))⟩, ⟨some 19, .bin .neq (.t 18) (.c (.int .u64 1)), (some (11, false))⟩, por 20 11 19] [20])
(.cond (.t 20)
(.seq
(.region none [
ic 2 8] [2])
.ret)
.skip))
(.seq
(.region none [
ic 2 0] [2])
.ret))),
[.tmp 2]⟩
theorem x22_ok : ck x22 22 := by decide +kernel
/-- peloton/pelotonref17.Settled -/
def x23 : XFunc := ⟨2,
(.seq
(.region none [
bx 2 0, bx 3 1,
⟨some 4, .alloc z0, none⟩,
ic 5 0] [2, 3, 4])
(.seq
(.region none [
ld 9 1 3, fa 10 0 2, ld 11 2 10, p2 12 43 9 11, ⟨some 6, .alloc z7, none⟩, st 2 6 12] [2, 3, 4, 6])
(.seq
(.region (some [0, 0, 0, 4, 15, 31, 63, 63, 0, 383, 1023]) [
ld 14 11 2, ld 15 1 3, ld 16 2 6, p1 17 45 16, p3 18 44 14 15 17, mv 13 18, ex 19 0 13, ex 20 1 13,
⟨some 7, .alloc z1, none⟩,
st 11 7 19, mv 8 20] [4, 6, 7, 8])
(.seq
(.seq
(.region none [
mv 21 8, bc 22 .neq 21 0] [4, 6, 7, 8, 22])
(.cond (.t 22)
(.seq
(.region none [
⟨some 23, .build z0 [], none⟩,
mv 24 8, st 13 4 23, mv 5 24] [4, 5])
.ret)
.skip))
(.seq
(.region none [
ld 25 11 7, ld 26 2 6,
⟨some 27, .build z0 [(0, 11, (.t 25)), (11, 2, (.t 26))], none⟩,
st 13 4 27, ic 5 0] [4, 5])
.ret))))),
[.cell 4 (some 13), .tmp 5]⟩
theorem x23_ok : ck x23 23 := by decide +kernel
/-- peloton/pelotonref09.Begin -/
def x24 : XFunc := ⟨2,
(.seq
(.region none [
bx 2 0, bx 3 1,
⟨some 4, .alloc z1, none⟩] [2, 3, 4])
(.seq
(.region (some [0, 0, 2, 6, 15, 31]) [
ld 5 2 3, ld 6 1 2, ⟨some 7, .call .own 46 [(.t 6)], none⟩, ⟨some 8, .call .pur 47 [(.c (.int .i64 200))], none⟩,
⟨some 9, .build z1 [(0, 2, (.t 5)), (2, 1, (.t 7)), (5, 5, (.t 8))], none⟩,
st 11 4 9] [4])
.ret)),
[.cell 4 (some 11)]⟩
theorem x24_ok : ck x24 24 := by decide +kernel
/-- peloton/pelotonref09.Twin -/
def x25 : XFunc := ⟨1,
(.seq
(.region none [
bx 1 0,
⟨some 2, .alloc z1, none⟩] [1, 2])
(.seq
(.region (some [0, 1, 0, 4, 12, 0, 32, 124, 0, 256, 1020, 0, 0, 4096, 16380, 32767, 65535]) [
fa 3 0 1, ld 4 2 3, fa 5 2 1, ld 6 1 5, ⟨some 7, .call .own 46 [(.t 6)], none⟩, fa 8 3 1, ld 9 2 8, ⟨some 10, .call .own 48 [(.t 9)], none⟩, fa 11 5 1,
ld 12 5 11, ⟨some 13, .call .own 49 [(.t 12)], none⟩, ⟨some 14, .mkrow 3 0 z5 [], none⟩, fa 15 10 1, ln 16 15,
ap 17 3 14 16,
⟨some 18, .build z1 [(0, 2, (.t 4)), (2, 1, (.t 7)), (3, 2, (.t 10)), (5, 5, (.t 13)), (10, 1, (.t 17))], none⟩,
st 11 2 18] [2])
.ret)),
[.cell 2 (some 11)]⟩
theorem x25_ok : ck x25 25 := by decide +kernel
/-- peloton/pelotonref11.Twin -/
def x26 : XFunc := ⟨1,
(.seq
(.region none [
bx 1 0, ⟨some 2, .alloc z7, none⟩] [1, 2])
(.seq
(.region (some [0, 1, 0, 0, 8, 28, 63, 127]) [
fa 3 0 1, ln 4 3, ⟨some 5, .mkrow 3 0 z5 [], none⟩, fa 6 1 1, ln 7 6, ap 8 3 5 7,
⟨some 9, .build z7 [(0, 1, (.t 4)), (1, 1, (.t 8))], none⟩, st 2 2 9] [2])
.ret)),
[.cell 2 (some 2)]⟩
theorem x26_ok : ck x26 26 := by decide +kernel
/-- peloton/heater.Check -/
def x27 : XFunc := ⟨1,
(.seq
(.region none [
bx 1 0, ic 2 0] [1])
(.seq
(.seq
(.region none [
fa 5 0 1, ld 6 11 5, p1 7 50 6, bc 8 .neq 7 0] [1, 8])
(.cond (.t 8)
(.seq
(.region none [
ic 2 8] [2])
.ret)
.skip))
(.seq
(.region none [
fa 10 0 1, fa 11 2 10, ld 12 1 11, fa 13 0 1, fa 14 0 13, ld 15 2 14, p2 16 51 12 15, mv 9 16, ex 17 0 9, ex 18 1 9,
⟨some 3, .alloc z7, none⟩, st 2 3 17, mv 4 18] [1, 3, 4])
(.seq
(.seq
(.region none [
fa 19 0 3, ln 20 19, fa 21 11 1, fa 22 0 21, ln 23 22, bt 24 .neq 20 23, mv 25 24, ⟨some 26, .fadr 1 (.t 3), (some (25, false))⟩,
⟨some 27, .load none (.t 26), (some (25, false))⟩, ⟨some 28, .fadr 11 (.t 1), (some (25, false))⟩, ⟨some 29, .fadr 1 (.t 28), (some (25, false))⟩,
⟨some 30, .load none (.t 29), (some (25, false))⟩, ⟨some 31, .call .pur 52 [(.t 27), (.t 30)], (some (25, false))⟩,
⟨some 32, .un .not (.t 31), (some (25, false))⟩, por 33 25 32, mv 34 33, ⟨some 35, .fadr 0 (.t 1), (some (34, false))⟩,
⟨some 36, .load (some 11) (.t 35), (some (34, false))⟩, ⟨some 37, .mov (.t 4), (some (34, false))⟩,
⟨some 38, .call .pur 53 [(.t 36), (.t 37)], (some (34, false))⟩, ⟨some 39, .un .not (.t 38), (some (34, false))⟩, por 40 34 39] [40])
(.cond (.t 40)
(.seq
(.region none [
ic 2 8] [2])
.ret)
.skip))
(.seq
(.region none [
ic 2 0] [2])
.ret))))),
[.tmp 2]⟩
theorem x27_ok : ck x27 27 := by decide +kernel
/-- peloton/pelotonref11.Equal -/
def x28 : XFunc := ⟨2,
(.seq
(.region none [
bx 2 0, bx 3 1, ⟨some 4, .mov (.c (.bool false)), none⟩] [2, 3])
(.seq
(.seq
(.region none [
fa 6 0 2, ln 7 6, fa 8 0 3, ln 9 8, bt 10 .neq 7 9, mv 11 10, ⟨some 12, .fadr 1 (.t 2), (some (11, false))⟩, ⟨some 13, .load none (.t 12), (some (11, false))⟩,
⟨some 14, .len (.t 13), (some (11, false))⟩, ⟨some 15, .fadr 1 (.t 3), (some (11, false))⟩, ⟨some 16, .load none (.t 15), (some (11, false))⟩,
⟨some 17, .len (.t 16), (some (11, false))⟩, ⟨some 18, .bin .neq (.t 14) (.t 17), (some (11, false))⟩, por 19 11 18] [2, 3, 19])
(.cond (.t 19)
(.seq
(.region none [
⟨some 4, .mov (.c (.bool false)), none⟩] [4])
.ret)
.skip))
(.seq
(.seq
(.region none [
ic 5 0] [2, 3, 5])
(.block 0
(.loop [(2, none), (3, none), (5, none)]
(.seq
(.seq
(.region none [
mv 20 5, fa 21 1 2, ln 22 21, le 23 22, bt 24 .lss 20 23] [2, 3, 5, 24])
(.cond (.t 24)
.skip
(.exit 0)))
(.seq
(.block 1
(.seq
(.region (some [0, 1, 0, 7, 15, 0, 32, 0, 224, 480, 1023]) [
fa 27 1 2, ln 28 27, mv 29 5, ia 30 3 28 29, ld 31 3 30, fa 32 1 3, ln 33 32, mv 34 5, ia 35 3 33 34, ld 36 3 35,
⟨some 37, .eqc 3 true (.t 31) (.t 36), none⟩] [2, 3, 5, 37])
(.cond (.t 37)
(.seq
(.region none [
⟨some 4, .mov (.c (.bool false)), none⟩] [4])
.ret)
.skip)))
(.region none [
mv 25 5, bc 26 .add 25 1, mv 5 26] [2, 3, 5]))))))
(.seq
(.region none [
⟨some 4, .mov (.c (.bool true)), none⟩] [4])
.ret)))),
[.tmp 4]⟩
theorem x28_ok : ck x28 28 := by decide +kernel
/-- peloton/pelotonref09.Same -/
def x29 : XFunc := ⟨2,
(.seq
(.region none [
bx 2 0, bx 3 1, ⟨some 4, .mov (.c (.bool false)), none⟩] [2, 3])
(.seq
(.seq
(.region none [
fa 6 0 2, ld 7 2 6, fa 8 0 3, ld 9 2 8, ⟨some 10, .eqc 2 true (.t 7) (.t 9), none⟩, mv 11 10, ⟨some 12, .fadr 2 (.t 2), (some (11, false))⟩,
⟨some 13, .load (some 1) (.t 12), (some (11, false))⟩, ⟨some 14, .fadr 2 (.t 3), (some (11, false))⟩, ⟨some 15, .load (some 1) (.t 14), (some (11, false))⟩,
⟨some 16, .call .pur 54 [(.t 13), (.t 15)], (some (11, false))⟩, ⟨some 17, .un .not (.t 16), (some (11, false))⟩, por 18 11 17, mv 19 18,
⟨some 20, .fadr 3 (.t 2), (some (19, false))⟩, ⟨some 21, .load (some 2) (.t 20), (some (19, false))⟩, ⟨some 22, .fadr 3 (.t 3), (some (19, false))⟩,
⟨some 23, .load (some 2) (.t 22), (some (19, false))⟩, ⟨some 24, .call .pur 55 [(.t 21), (.t 23)], (some (19, false))⟩,
⟨some 25, .un .not (.t 24), (some (19, false))⟩, por 26 19 25, mv 27 26, ⟨some 28, .fadr 5 (.t 2), (some (27, false))⟩,
⟨some 29, .load (some 5) (.t 28), (some (27, false))⟩, ⟨some 30, .fadr 5 (.t 3), (some (27, false))⟩, ⟨some 31, .load (some 5) (.t 30), (some (27, false))⟩,
⟨some 32, .call .pur 56 [(.t 29), (.t 31)], (some (27, false))⟩, ⟨some 33, .un .not (.t 32), (some (27, false))⟩, por 34 27 33, mv 35 34,
⟨some 36, .fadr 10 (.t 2), (some (35, false))⟩, ⟨some 37, .load none (.t 36), (some (35, false))⟩, ⟨some 38, .len (.t 37), (some (35, false))⟩,
⟨some 39, .fadr 10 (.t 3), (some (35, false))⟩, ⟨some 40, .load none (.t 39), (some (35, false))⟩, ⟨some 41, .len (.t 40), (some (35, false))⟩,
⟨some 42, .bin .neq (.t 38) (.t 41), (some (35, false))⟩, por 43 35 42] [2, 3, 43])
(.cond (.t 43)
(.seq
(.region none [
⟨some 4, .mov (.c (.bool false)), none⟩] [4])
.ret)
.skip))
(.seq
(.seq
(.region none [
ic 5 0] [2, 3, 5])
(.block 0
(.loop [(2, none), (3, none), (5, none)]
(.seq
(.seq
(.region none [
mv 44 5, fa 45 10 2, ln 46 45, le 47 46, bt 48 .lss 44 47] [2, 3, 5, 48])
(.cond (.t 48)
.skip
(.exit 0)))
(.seq
(.block 1
(.seq
(.region (some [0, 1, 0, 7, 15, 0, 32, 0, 224, 480, 1023]) [
fa 51 10 2, ln 52 51, mv 53 5, ia 54 3 52 53, ld 55 3 54, fa 56 10 3, ln 57 56, mv 58 5, ia 59 3 57 58, ld 60 3 59,
⟨some 61, .eqc 3 true (.t 55) (.t 60), none⟩] [2, 3, 5, 61])
(.cond (.t 61)
(.seq
(.region none [
⟨some 4, .mov (.c (.bool false)), none⟩] [4])
.ret)
.skip)))
(.region none [
mv 49 5, bc 50 .add 49 1, mv 5 50] [2, 3, 5]))))))
(.seq
(.region none [
⟨some 4, .mov (.c (.bool true)), none⟩] [4])
.ret)))),
[.tmp 4]⟩
theorem x29_ok : ck x29 29 := by decide +kernel
/-- peloton/cartes.Of -/
def x30 : XFunc := ⟨2,
(.seq
(.region none [
bx 2 0, bx 3 1, ⟨some 4, .alloc z7, none⟩, ic 5 0] [2, 3, 4])
(.seq
(.seq
(.region none [
ld 15 1 2, ld 16 2 3, p2 17 57 15 16, mv 6 17] [2, 3, 4, 6])
(.seq
(.region none [
mv 18 6, bc 19 .neq 18 0] [2, 3, 4, 6, 19])
(.cond (.t 19)
(.seq
(.region none [
⟨some 20, .build z7 [], none⟩, mv 21 6, st 2 4 20, mv 5 21] [4, 5])
.ret)
.skip)))
(.seq
(.region none [
⟨some 22, .build z7 [(0, 1, (.c (.int .i64 (-1))))], none⟩, ⟨some 7, .alloc z7, none⟩,
st 2 7 22] [2, 3, 4, 7])
(.seq
(.region none [
⟨some 8, .mov (.c (.sl 1 true [])), none⟩] [2, 3, 4, 7, 8])
(.seq
(.seq
(.region none [
fa 23 0 2, ln 24 23, le 25 24, ic 26 0] [2, 3, 4, 7, 8, 24, 25, 26])
(.block 0
(.loop [(2, none), (3, none), (4, none), (7, none), (8, some 1), (24, none), (25, none), (26, none), (7, some 2003), (1000008, none)]
(.seq
(.region none [
bt 27 .lss 26 25] [2, 3, 4, 7, 8, 24, 25, 26, 27])
(.seq
(.cond (.t 27)
.skip
(.exit 0))
(.seq
(.block 1
(.seq
(.region none [
mv 28 26, ia 29 3 24 26, ld 30 3 29, ⟨some 10, .alloc z5, none⟩, mv 9 28, st 3 10 30] [2, 3, 4, 7, 8, 9, 10, 24, 25, 26])
(.seq
(.region none [
fa 31 0 10, ln 32 31,
⟨some 33, .build z5 [(0, 1, (.t 32)), (1, 1, (.c (.int .i64 (-1)))), (2, 1, (.c (.int .i64 (-1))))], none⟩,
⟨some 11, .alloc z5, none⟩, st 3 11 33] [2, 3, 4, 7, 8, 9, 10, 11, 24, 25, 26])
(.seq
(.block 2
(.loop [(2, none), (3, none), (4, none), (7, none), (8, none), (9, none), (10, none), (11, none), (24, none), (25, none), (26, none), (1000008, none)]
(.seq
(.seq
(.region none [
mv 34 8, le 35 34, bc 36 .gtr 35 0] [2, 3, 4, 7, 8, 9, 10, 11, 24, 25, 26, 36])
(.cond (.t 36)
.skip
(.exit 2)))
(.block 3
(.seq
(.region none [
mv 37 8, mv 38 8, le 39 38, bc 40 .sub 39 1, ia 41 1 37 40, ln 42 41, mv 12 42] [2, 3, 4, 7, 8, 9, 10, 11, 12, 24, 25, 26])
(.seq
(.seq
(.region (some [0, 1, 0, 7, 15, 0, 0, 127, 255, 511, 511, 1023, 4095]) [
fa 44 0 2, ln 45 44, mv 46 12, ia 47 3 45 46, ld 48 3 47, ld 49 3 10, ld 50 2 3, p3 51 58 48 49 50, mv 43 51, ex 52 0 43, ex 53 1 43, mv 13 52,
mv 14 53] [2, 3, 4, 7, 8, 9, 10, 11, 12, 13, 24, 25, 26])
(.seq
(.region none [
mv 54 13] [2, 3, 4, 7, 8, 9, 10, 11, 12, 24, 25, 26, 54])
(.cond (.t 54)
(.exit 2)
.skip)))
(.region (some [0, 0, 0, 4, 12, 30, 1, 65, 255]) [
mv 55 12, mv 56 8, mv 57 8, le 58 57, bc 59 .sub 58 1, ⟨some 60, .slc 1 (.t 56) none (some (.t 59)) none, none⟩, fa 61 1 11, st 1 61 55,
mv 8 60] [2, 3, 4, 7, 8, 9, 10, 11, 24, 25, 26])))))))
(.seq
(.seq
(.region none [
mv 62 8, le 63 62, bc 64 .gtr 63 0] [2, 3, 4, 7, 8, 9, 11, 24, 25, 26, 64])
(.cond (.t 64)
(.region (some [0, 1, 0, 0, 8, 24, 60, 124, 0, 511, 1023, 2047]) [
fa 65 1 7, ln 66 65, mv 67 8, mv 68 8, le 69 68, bc 70 .sub 69 1, ia 71 1 67 70, ln 72 71, mv 73 9, ia 74 3 66 72, fa 75 2 74,
st 1 75 73] [2, 3, 4, 7, 8, 9, 11, 24, 25, 26])
(.region none [
mv 76 9, fa 77 0 7, st 1 77 76] [2, 3, 4, 7, 8, 9, 11, 24, 25, 26])))
(.region none [
fa 78 1 7, ln 79 78, ld 80 3 11, ⟨some 81, .mkrow 3 1 z5 [(0, (.t 80))], none⟩, ap 82 3 79 81, mv 83 8, mv 84 9,
⟨some 85, .mkrow 1 1 [.int .i64 0] [(0, (.t 84))], none⟩, ap 86 1 83 85, fa 87 1 7, st 1 87 82, mv 8 86] [2, 3, 4, 7, 8, 24, 25, 26]))))))
(.region none [
bc 88 .add 26 1, mv 26 88] [2, 3, 4, 7, 8, 24, 25, 26])))))))
(.seq
(.region none [
ld 89 2 7, st 2 4 89, ic 5 0] [4, 5])
.ret)))))),
[.cell 4 (some 2), .tmp 5]⟩
theorem x30_ok : ck x30 30 := by decide +kernel
/-- peloton/kheap.Renew -/
def x31 : XFunc := ⟨3,
(.seq
(.region none [
bx 3 0, bx 4 1,
⟨some 6, .alloc z1, none⟩,
ic 7 0] [2, 3, 4, 6])
(.seq
(.seq
(.region none [
ld 20 11 3, p1 21 50 20, mv 8 21] [2, 3, 4, 6, 8])
(.seq
(.region none [
mv 22 8, bc 23 .neq 22 0] [2, 3, 4, 6, 8, 23])
(.cond (.t 23)
(.seq
(.region none [
⟨some 24, .build z1 [], none⟩,
mv 25 8, st 11 6 24, mv 7 25] [6, 7])
.ret)
.skip)))
(.seq
(.seq
(.region none [
ld 26 1 4, p1 27 33 26, mv 9 27] [2, 3, 4, 6, 9])
(.seq
(.region none [
mv 28 9, bc 29 .neq 28 0] [2, 3, 4, 6, 9, 29])
(.cond (.t 29)
(.seq
(.region none [
⟨some 30, .build z1 [], none⟩,
mv 31 9, st 11 6 30, mv 7 31] [6, 7])
.ret)
.skip)))
(.seq
(.seq
(.region none [
mv 32 2, le 33 32, ic 34 0] [2, 3, 4, 6, 32, 33, 34])
(.block 0
(.loop [(2, none), (3, none), (4, none), (6, none), (32, none), (33, none), (34, none)]
(.seq
(.region none [
bt 35 .lss 34 33] [2, 3, 4, 6, 32, 33, 34, 35])
(.seq
(.cond (.t 35)
.skip
(.exit 0))
(.seq
(.block 1
(.seq
(.region none [
ia 36 2 32 34, ld 37 2 36, ⟨some 11, .alloc z8, none⟩, st 2 11 37] [2, 3, 4, 6, 11, 32, 33, 34])
(.seq
(.region none [
fa 38 0 11, ln 39 38, bc 40 .lss 39 0, mv 41 40, ⟨some 42, .fadr 1 (.t 11), (some (41, false))⟩, ⟨some 43, .load none (.t 42), (some (41, false))⟩,
⟨some 44, .bin .lss (.t 43) (.c (.int .i64 0)), (some (41, false))⟩, por 45 41 44, mv 46 45, ⟨some 47, .fadr 0 (.t 11), (some (46, false))⟩,
⟨some 48, .load none (.t 47), (some (46, false))⟩, ⟨some 49, .bin .gtr (.t 48) (.c (.int .i64 65535)), (some (46, false))⟩, por 50 46 49, mv 51 50,
⟨some 52, .fadr 1 (.t 11), (some (51, false))⟩, ⟨some 53, .load none (.t 52), (some (51, false))⟩,
⟨some 54, .bin .gtr (.t 53) (.c (.int .i64 65535)), (some (51, false))⟩, por 55 51 54, mv 56 55, ⟨some 57, .fadr 0 (.t 11), (some (56, false))⟩,
⟨some 58, .load none (.t 57), (some (56, false))⟩, ⟨some 59, .fadr 1 (.t 11), (some (56, false))⟩, ⟨some 60, .load none (.t 59), (some (56, false))⟩,
⟨some 61, .bin .eql (.t 58) (.t 60), (some (56, false))⟩, por 62 56 61] [2, 3, 4, 6, 32, 33, 34, 62])
(.cond (.t 62)
(.seq
(.region none [
⟨some 63, .build z1 [], none⟩,
st 11 6 63, ic 7 8] [6, 7])
.ret)
.skip))))
(.region none [
bc 64 .add 34 1, mv 34 64] [2, 3, 4, 6, 32, 33, 34])))))))
(.seq
(.seq
(.region none [
mv 65 2, le 66 65, ic 67 0] [2, 3, 4, 6, 65, 66, 67])
(.block 2
(.loop [(2, none), (3, none), (4, none), (6, none), (65, none), (66, none), (67, none)]
(.seq
(.region none [
bt 68 .lss 67 66] [2, 3, 4, 6, 65, 66, 67, 68])
(.seq
(.cond (.t 68)
.skip
(.exit 2))
(.seq
(.block 3
(.seq
(.region none [
mv 69 67, ia 70 2 65 67, ld 71 2 70, ⟨some 13, .alloc z8, none⟩, mv 12 69, st 2 13 71] [2, 3, 4, 6, 12, 13, 65, 66, 67])
(.seq
(.region (some [0, 0, 3, 0, 15]) [
mv 72 2, mv 73 12, ⟨some 74, .slc 2 (.t 72) none (some (.t 73)) none, none⟩, ld 75 2 13, p2 76 59 74 75] [2, 3, 4, 6, 65, 66, 67, 76])
(.cond (.t 76)
(.seq
(.region none [
⟨some 77, .build z1 [], none⟩,
st 11 6 77, ic 7 14] [6, 7])
.ret)
.skip))))
(.region none [
bc 78 .add 67 1, mv 67 78] [2, 3, 4, 6, 65, 66, 67])))))))
(.seq
(.seq
(.region none [
mv 79 2, le 80 79, ic 81 0] [2, 3, 4, 6, 79, 80, 81])
(.block 4
(.loop [(2, none), (3, none), (4, none), (6, none), (79, none), (80, none), (81, none)]
(.seq
(.region none [
bt 82 .lss 81 80] [2, 3, 4, 6, 79, 80, 81, 82])
(.seq
(.cond (.t 82)
.skip
(.exit 4))
(.seq
(.block 5
(.seq
(.region none [
ia 83 2 79 81, ld 84 2 83, ⟨some 15, .alloc z8, none⟩, st 2 15 84] [2, 3, 4, 6, 15, 79, 80, 81])
(.seq
(.region none [
ld 86 1 4, fa 87 0 15, ln 88 87, p2 89 60 86 88, mv 85 89, ex 90 0 85, ex 91 1 85, ⟨some 16, .alloc z5, none⟩, st 3 16 90,
mv 17 91] [2, 3, 4, 6, 15, 17, 79, 80, 81])
(.seq
(.region none [
ld 93 1 4, fa 94 1 15, ln 95 94, p2 96 60 93 95, mv 92 96, ex 97 0 92, ex 98 1 92, ⟨some 18, .alloc z5, none⟩, st 3 18 97,
mv 19 98] [2, 3, 4, 6, 17, 19, 79, 80, 81])
(.seq
(.region none [
mv 99 17, bc 100 .neq 99 0, mv 101 100, ⟨some 102, .mov (.t 19), (some (101, false))⟩, ⟨some 103, .bin .neq (.t 102) (.c (.int .i64 0)), (some (101, false))⟩,
por 104 101 103] [2, 3, 4, 6, 79, 80, 81, 104])
(.cond (.t 104)
(.seq
(.region none [
⟨some 105, .build z1 [], none⟩,
st 11 6 105, ic 7 6] [6, 7])
.ret)
.skip))))))
(.region none [
bc 106 .add 81 1, mv 81 106] [2, 3, 4, 6, 79, 80, 81])))))))
(.seq
(.region (some [0, 1, 0, 0, 15, 31, 31, 127, 255]) [
ld 107 11 3, ⟨some 108, .call .own 62 [(.t 107)], none⟩, ld 109 1 4, mv 110 2, p3 111 61 108 109 110, ex 112 0 111, ex 113 1 111, st 11 6 112, mv 7 113] [6, 7])
.ret))))))),
[.cell 6 (some 11), .tmp 7]⟩
theorem x31_ok : ck x31 31 := by decide +kernel
/-- peloton/eedit.edges -/
def x32 : XFunc := ⟨1,
(.seq
(.region none [
bx 1 0, ⟨some 2, .mov (.c (.sl 2 true [])), none⟩] [1])
(.seq
(.region none [
fa 11 1 1, ln 12 11, le 13 12, ⟨some 14, .mks 1 [.int .i64 0] (.t 13) (.t 13), none⟩, mv 3 14] [1, 3])
(.seq
(.seq
(.region none [
fa 15 1 1, ln 16 15, le 17 16, ic 18 0] [1, 3, 16, 17, 18])
(.block 0
(.loop [(1, none), (3, none), (16, none), (17, none), (18, none)]
(.seq
(.region none [
bt 19 .lss 18 17] [1, 3, 16, 17, 18, 19])
(.seq
(.cond (.t 19)
.skip
(.exit 0))
(.seq
(.block 1
(.seq
(.region none [
mv 20 18, ia 21 3 16 18, ld 22 3 21, ⟨some 5, .alloc z5, none⟩, mv 4 20, st 3 5 22] [1, 3, 4, 5, 16, 17, 18])
(.seq
(.region none [
fa 23 1 5, ln 24 23, fa 25 2 5, ln 26 25, ⟨some 27, .build z8 [(0, 1, (.t 24)), (1, 1, (.t 26))], none⟩,
ic 28 0] [1, 3, 4, 16, 17, 18, 27, 28])
(.block 2
(.loop [(1, none), (3, none), (4, none), (16, none), (17, none), (18, none), (27, none), (28, none)]
(.seq
(.region none [
bc 29 .lss 28 2] [1, 3, 4, 16, 17, 18, 27, 28, 29])
(.seq
(.cond (.t 29)
.skip
(.exit 2))
(.seq
(.block 3
(.seq
(.region none [
⟨some 30, .idx 2 1 none (.t 27) (.t 28), none⟩, mv 7 30] [1, 3, 4, 7, 16, 17, 18, 27, 28])
(.seq
(.region none [
mv 31 7, bc 32 .geq 31 0] [1, 3, 4, 7, 16, 17, 18, 27, 28, 32])
(.cond (.t 32)
(.region none [
mv 33 3, mv 34 7, mv 35 4, ia 36 1 33 34, st 1 36 35] [1, 3, 4, 16, 17, 18, 27, 28])
.skip))))
(.region none [
bc 37 .add 28 1, mv 28 37] [1, 3, 4, 16, 17, 18, 27, 28])))))))))
(.region none [
bc 38 .add 18 1, mv 18 38] [1, 3, 16, 17, 18])))))))
(.seq
(.region none [
⟨some 8, .mov (.c (.sl 2 true [])), none⟩] [1, 3, 8])
(.seq
(.seq
(.region none [
fa 39 1 1, ln 40 39, le 41 40, ic 42 0] [1, 3, 8, 40, 41, 42])
(.block 4
(.loop [(1, none), (3, none), (8, some 2), (40, none), (41, none), (42, none)]
(.seq
(.region none [
bt 43 .lss 42 41] [1, 3, 8, 40, 41, 42, 43])
(.seq
(.cond (.t 43)
.skip
(.exit 4))
(.seq
(.block 5
(.seq
(.region none [
mv 44 42, ia 45 3 40 42, ld 46 3 45, ⟨some 10, .alloc z5, none⟩, mv 9 44, st 3 10 46] [1, 3, 8, 9, 10, 40, 41, 42])
(.seq
(.region none [
mv 47 9, fa 48 0 1, ln 49 48, bt 50 .neq 47 49] [1, 3, 8, 9, 10, 40, 41, 42, 50])
(.cond (.t 50)
(.region (some [0, 0, 2, 0, 8, 0, 0, 96, 224, 504, 1016, 2040, 4094, 8190, 16383, 32767]) [
mv 51 8, fa 52 0 10, ln 53 52, fa 54 1 1, ln 55 54, mv 56 3, mv 57 9, ia 58 1 56 57, ln 59 58, ia 60 3 55 59, fa 61 0 60, ln 62 61,
⟨some 63, .build z8 [(0, 1, (.t 53)), (1, 1, (.t 62))], none⟩, ⟨some 64, .mkrow 2 1 z8 [(0, (.t 63))], none⟩,
ap 65 2 51 64, mv 8 65] [1, 3, 8, 40, 41, 42])
.skip))))
(.region none [
bc 66 .add 42 1, mv 42 66] [1, 3, 8, 40, 41, 42])))))))
(.seq
(.region none [
mv 67 8, mv 2 67] [2])
.ret)))))),
[.tmp 2]⟩
theorem x32_ok : ck x32 32 := by decide +kernel
/-- peloton/field.Check -/
def x33 : XFunc := ⟨1,
(.seq
(.region none [
bx 1 0, ic 2 0] [1])
(.seq
(.seq
(.region none [
fa 8 0 1, ln 9 8, le 10 9, bc 11 .gtr 10 64] [1, 11])
(.cond (.t 11)
(.seq
(.region none [
ic 2 4] [2])
.ret)
.skip))
(.seq
(.seq
(.region none [
fa 12 0 1, ln 13 12, le 14 13, ic 15 0] [1, 13, 14, 15])
(.block 0
(.loop [(1, none), (13, none), (14, none), (15, none)]
(.seq
(.region none [
bt 16 .lss 15 14] [1, 13, 14, 15, 16])
(.seq
(.cond (.t 16)
.skip
(.exit 0))
(.seq
(.block 1
(.seq
(.region none [
ia 17 3 13 15, ld 18 3 17, ⟨some 4, .alloc z5, none⟩, st 3 4 18] [1, 4, 13, 14, 15])
(.seq
(.region none [
ld 19 3 4, p1 20 34 19, mv 5 20] [1, 5, 13, 14, 15])
(.seq
(.region none [
mv 21 5, bc 22 .neq 21 0] [1, 5, 13, 14, 15, 22])
(.cond (.t 22)
(.seq
(.region none [
mv 23 5, mv 2 23] [2])
.ret)
.skip)))))
(.region none [
bc 24 .add 15 1, mv 15 24] [1, 13, 14, 15])))))))
(.seq
(.seq
(.region none [
fa 25 0 1, ln 26 25, le 27 26, ic 28 0] [1, 26, 27, 28])
(.block 2
(.loop [(1, none), (26, none), (27, none), (28, none)]
(.seq
(.region none [
bt 29 .lss 28 27] [1, 26, 27, 28, 29])
(.seq
(.cond (.t 29)
.skip
(.exit 2))
(.seq
(.block 3
(.seq
(.region none [
mv 30 28, ia 31 3 26 28, ld 32 3 31, ⟨some 7, .alloc z5, none⟩, mv 6 30, st 3 7 32] [1, 6, 7, 26, 27, 28])
(.seq
(.region (some [0, 1, 3, 7, 15, 7, 39, 127, 255, 511, 7, 1031, 4095, 8191]) [
mv 33 6, bc 34 .gtr 33 0, mv 35 34, ⟨some 36, .fadr 0 (.t 1), (some (35, true))⟩, ⟨some 37, .load none (.t 36), (some (35, true))⟩,
⟨some 38, .mov (.t 6), (some (35, true))⟩, ⟨some 39, .bin .sub (.t 38) (.c (.int .i64 1)), (some (35, true))⟩,
⟨some 40, .iadr 3 (.t 37) (.t 39), (some (35, true))⟩, ⟨some 41, .fadr 0 (.t 40), (some (35, true))⟩, ⟨some 42, .load none (.t 41), (some (35, true))⟩,
⟨some 43, .fadr 0 (.t 7), (some (35, true))⟩, ⟨some 44, .load none (.t 43), (some (35, true))⟩, ⟨some 45, .bin .geq (.t 42) (.t 44), (some (35, true))⟩,
pan 46 35 45] [1, 26, 27, 28, 46])
(.cond (.t 46)
(.seq
(.region none [
ic 2 32] [2])
.ret)
.skip))))
(.region none [
bc 47 .add 28 1, mv 28 47] [1, 26, 27, 28])))))))
(.seq
(.region none [
ic 2 0] [2])
.ret))))),
[.tmp 2]⟩
theorem x33_ok : ck x33 33 := by decide +kernel
/-- peloton/course.Check -/
def x34 : XFunc := ⟨1,
(.seq
(.region none [
bx 1 0, ic 2 0] [1])
(.seq
(.region none [
⟨some 3, .mov (.c (.clo 63 [] [])), none⟩] [1, 3])
(.seq
(.seq
(.region none [
fa 4 0 1, ln 5 4, bc 6 .lss 5 0, mv 7 6, ⟨some 8, .fadr 0 (.t 1), (some (7, false))⟩, ⟨some 9, .load none (.t 8), (some (7, false))⟩,
⟨some 10, .bin .gtr (.t 9) (.c (.int .i64 65535)), (some (7, false))⟩, por 11 7 10, mv 12 11, ⟨some 13, .mov (.t 3), (some (12, false))⟩,
⟨some 14, .fadr 1 (.t 1), (some (12, false))⟩, ⟨some 15, .load none (.t 14), (some (12, false))⟩, ⟨some 16, .callv (.t 13) [(.t 15)], (some (12, false))⟩,
por 17 12 16, mv 18 17, ⟨some 19, .mov (.t 3), (some (18, false))⟩, ⟨some 20, .fadr 2 (.t 1), (some (18, false))⟩,
⟨some 21, .load none (.t 20), (some (18, false))⟩, ⟨some 22, .callv (.t 19) [(.t 21)], (some (18, false))⟩, por 23 18 22] [23])
(.cond (.t 23)
(.seq
(.region none [
ic 2 8] [2])
.ret)
.skip))
(.seq
(.region none [
ic 2 0] [2])
.ret)))),
[.tmp 2]⟩
theorem x34_ok : ck x34 34 := by decide +kernel
/-- peloton/field.find -/
def x35 : XFunc := ⟨2,
(.seq
(.region none [
bx 2 0, ic 4 0, ⟨some 5, .mov (.c (.bool false)), none⟩] [1, 2])
(.seq
(.region none [
fa 6 0 2, ln 7 6, mv 8 1, ⟨some 9, .call .pur 64 [(.t 7), (.t 8), (.c (.clo 65 [] []))], none⟩, ex 10 0 9, ex 11 1 9, mv 4 10, mv 5 11] [4, 5])
.ret)),
[.tmp 4, .tmp 5]⟩
theorem x35_ok : ck x35 35 := by decide +kernel
/-- slices.Insert[[]peloton/api.Point,peloton/api.Point] -/
def x36 : XFunc := ⟨3,
(.seq
(.region none [
⟨some 6, .mov (.c (.sl 3 true [])), none⟩] [0, 1, 2])
(.seq
(.region none [
mv 10 0, mv 11 1, ⟨some 12, .slc 3 (.t 10) (some (.t 11)) none none, none⟩] [0, 1, 2])
(.seq
(.region none [
mv 13 2, le 14 13, mv 7 14] [0, 1, 2, 7])
(.seq
(.seq
(.region none [
mv 15 7, bc 16 .eql 15 0] [0, 1, 2, 7, 16])
(.cond (.t 16)
(.seq
(.region none [
mv 17 0, mv 6 17] [6])
.ret)
.skip))
(.seq
(.region none [
mv 18 0, le 19 18, mv 8 19] [0, 1, 2, 7, 8])
(.seq
(.seq
(.region none [
mv 20 1, mv 21 8, bt 22 .eql 20 21] [0, 1, 2, 7, 8, 22])
(.cond (.t 22)
(.seq
(.region none [
mv 23 0, mv 24 2, ap 25 3 23 24, mv 6 25] [6])
.ret)
.skip))
(.seq
(.seq
(.region none [
mv 26 8, mv 27 7, bt 28 .add 26 27, mv 29 0, ⟨some 30, .bad, none⟩, bt 31 .gtr 28 30] [0, 1, 2, 7, 8, 31])
(.cond (.t 31)
(.seq
(.region none [
mv 32 0, mv 33 1, ⟨some 34, .slc 3 (.t 32) none (some (.t 33)) none, none⟩, mv 35 8, mv 36 7, bt 37 .add 35 36, mv 38 1, bt 39 .sub 37 38,
⟨some 40, .bad, none⟩, mv 9 40] [0, 1, 2, 7, 9])
(.seq
(.region none [
mv 41 9, mv 42 1, ⟨some 43, .slc 3 (.t 41) (some (.t 42)) none none, none⟩, mv 44 2, ⟨some 45, .copy 3 (.t 43) (.t 44), none⟩] [0, 1, 7, 9])
(.seq
(.region (some [0, 0, 0, 6, 15, 0, 0, 96, 255]) [
mv 46 9, mv 47 1, mv 48 7, bt 49 .add 47 48, ⟨some 50, .slc 3 (.t 46) (some (.t 49)) none none, none⟩, mv 51 0, mv 52 1,
⟨some 53, .slc 3 (.t 51) (some (.t 52)) none none, none⟩, ⟨some 54, .copy 3 (.t 50) (.t 53), none⟩] [9])
(.seq
(.region none [
mv 55 9, mv 6 55] [6])
.ret))))
.skip))
(.seq
(.region none [
mv 56 0, mv 57 8, mv 58 7, bt 59 .add 57 58, ⟨some 60, .slc 3 (.t 56) none (some (.t 59)) none, none⟩, mv 0 60] [0, 1, 2, 7, 8])
(.seq
(.seq
(.region none [
mv 61 2, mv 62 0, mv 63 1, mv 64 7, bt 65 .add 63 64, ⟨some 66, .slc 3 (.t 62) (some (.t 65)) none none, none⟩, p2 67 67 61 66,
⟨some 68, .un .not (.t 67), none⟩] [0, 1, 2, 7, 8, 68])
(.cond (.t 68)
(.seq
(.region (some [0, 0, 0, 6, 15, 0, 0, 96, 255]) [
mv 69 0, mv 70 1, mv 71 7, bt 72 .add 70 71, ⟨some 73, .slc 3 (.t 69) (some (.t 72)) none none, none⟩, mv 74 0, mv 75 1,
⟨some 76, .slc 3 (.t 74) (some (.t 75)) none none, none⟩, ⟨some 77, .copy 3 (.t 73) (.t 76), none⟩] [0, 1, 2])
(.seq
(.region none [
mv 78 0, mv 79 1, ⟨some 80, .slc 3 (.t 78) (some (.t 79)) none none, none⟩, mv 81 2, ⟨some 82, .copy 3 (.t 80) (.t 81), none⟩] [0])
(.seq
(.region none [
mv 83 0, mv 6 83] [6])
.ret)))
.skip))
(.seq
(.region none [
mv 84 0, mv 85 8, ⟨some 86, .slc 3 (.t 84) (some (.t 85)) none none, none⟩, mv 87 2, ⟨some 88, .copy 3 (.t 86) (.t 87), none⟩] [0, 1, 7])
(.seq
(.region none [
mv 89 0, mv 90 1, ⟨some 91, .slc 3 (.t 89) (some (.t 90)) none none, none⟩, mv 92 7, p2 93 68 91 92] [0])
(.seq
(.region none [
mv 94 0, mv 6 94] [6])
.ret)))))))))))),
[.tmp 6]⟩
theorem x36_ok : ck x36 36 := by decide +kernel
/-- peloton/field.place -/
def x38 : XFunc := ⟨2,
(.seq
(.region none [
bx 2 0, ic 4 0, ic 5 0] [1, 2])
(.seq
(.seq
(.region none [
ld 9 1 2, p1 10 33 9, mv 6 10] [1, 2, 6])
(.seq
(.region none [
mv 11 6, bc 12 .neq 11 0] [1, 2, 6, 12])
(.cond (.t 12)
(.seq
(.region none [
mv 13 6, ic 4 0, mv 5 13] [4, 5])
.ret)
.skip)))
(.seq
(.region none [
ld 15 1 2, mv 16 1, p2 17 35 15 16, mv 14 17, ex 18 0 14, ex 19 1 14, mv 7 18, mv 8 19] [7, 8])
(.seq
(.seq
(.region none [
mv 20 8, ⟨some 21, .un .not (.t 20), none⟩] [7, 21])
(.cond (.t 21)
(.seq
(.region none [
ic 4 0, ic 5 6] [4, 5])
.ret)
.skip))
(.seq
(.region none [
mv 22 7, mv 4 22, ic 5 0] [4, 5])
.ret))))),
[.tmp 4, .tmp 5]⟩
theorem x38_ok : ck x38 38 := by decide +kernel
/-- slices.Delete[[]peloton/api.Point,peloton/api.Point] -/
def x39 : XFunc := ⟨3,
(.seq
(.region none [
⟨some 6, .mov (.c (.sl 3 true [])), none⟩] [0, 1, 2])
(.seq
(.region none [
mv 8 0, mv 9 1, mv 10 2, mv 11 0, le 12 11, ⟨some 13, .slc 3 (.t 8) (some (.t 9)) (some (.t 10)) (some (.t 12)), none⟩] [0, 1, 2])
(.seq
(.seq
(.region none [
mv 14 1, mv 15 2, bt 16 .eql 14 15] [0, 1, 2, 16])
(.cond (.t 16)
(.seq
(.region none [
mv 17 0, mv 6 17] [6])
.ret)
.skip))
(.seq
(.region none [
mv 18 0, le 19 18, mv 7 19] [0, 1, 2, 7])
(.seq
(.region (some [0, 0, 3, 0, 0, 24, 63, 127]) [
mv 20 0, mv 21 1, ⟨some 22, .slc 3 (.t 20) none (some (.t 21)) none, none⟩, mv 23 0, mv 24 2, ⟨some 25, .slc 3 (.t 23) (some (.t 24)) none none, none⟩,
ap 26 3 22 25, mv 0 26] [0, 7])
(.seq
(.region none [
mv 27 0, mv 28 0, le 29 28, mv 30 7, ⟨some 31, .slc 3 (.t 27) (some (.t 29)) (some (.t 30)) none, none⟩,
⟨none, .clear 3 z5 (.t 31), none⟩] [0])
(.seq
(.region none [
mv 32 0, mv 6 32] [6])
.ret))))))),
[.tmp 6]⟩
theorem x39_ok : ck x39 39 := by decide +kernel
/-- peloton/pelotonref02.Check -/
def x40 : XFunc := ⟨1,
(.seq
(.region none [
bx 1 0, ic 2 0] [1])
(.seq
(.seq
(.region none [
fa 3 0 1, ln 4 3, bc 5 .lss 4 0, mv 6 5, ⟨some 7, .fadr 0 (.t 1), (some (6, false))⟩, ⟨some 8, .load none (.t 7), (some (6, false))⟩,
⟨some 9, .bin .gtr (.t 8) (.c (.int .i64 65535)), (some (6, false))⟩, por 10 6 9, mv 11 10, ⟨some 12, .fadr 1 (.t 1), (some (11, false))⟩,
⟨some 13, .load none (.t 12), (some (11, false))⟩, ⟨some 14, .bin .lss (.t 13) (.c (.int .i64 (-1048576))), (some (11, false))⟩, por 15 11 14, mv 16 15,
⟨some 17, .fadr 1 (.t 1), (some (16, false))⟩, ⟨some 18, .load none (.t 17), (some (16, false))⟩,
⟨some 19, .bin .gtr (.t 18) (.c (.int .i64 1048576)), (some (16, false))⟩, por 20 16 19, mv 21 20, ⟨some 22, .fadr 2 (.t 1), (some (21, false))⟩,
⟨some 23, .load none (.t 22), (some (21, false))⟩, ⟨some 24, .bin .lss (.t 23) (.c (.int .i64 (-1048576))), (some (21, false))⟩, por 25 21 24, mv 26 25,
⟨some 27, .fadr 2 (.t 1), (some (26, false))⟩, ⟨some 28, .load none (.t 27), (some (26, false))⟩,
⟨some 29, .bin .gtr (.t 28) (.c (.int .i64 1048576)), (some (26, false))⟩, por 30 26 29] [30])
(.cond (.t 30)
(.seq
(.region none [
ic 2 8] [2])
.ret)
.skip))
(.seq
(.region none [
ic 2 0] [2])
.ret))),
[.tmp 2]⟩
theorem x40_ok : ck x40 40 := by decide +kernel
/-- peloton/pelotonref01.common -/
def x41 : XFunc := ⟨2,
(.seq
(.region none [
⟨some 4, .mov (.c (.int .u64 0)), none⟩] [0, 1])
(.seq
(.block 0
(.loop [(0, none), (1, none)]
(.seq
(.seq
(.region none [
mv 5 1, ⟨some 6, .bin .neq (.t 5) (.c (.int .u64 0)), none⟩] [0, 1, 6])
(.cond (.t 6)
.skip
(.exit 0)))
(.block 1
(.region (some [0, 0, 0, 6, 3, 31]) [
mv 7 1, mv 8 0, mv 9 1, bt 10 .rem 8 9, mv 0 7, mv 1 10] [0, 1])))))
(.seq
(.region none [
mv 11 0, mv 4 11] [4])
.ret))),
[.tmp 4]⟩
theorem x41_ok : ck x41 41 := by decide +kernel
/-- peloton/pelotonref01.size -/
def x42 : XFunc := ⟨1,
(.seq
(.region none [
⟨some 2, .mov (.c (.int .u64 0)), none⟩] [0])
(.seq
(.seq
(.region none [
mv 3 0, bc 4 .lss 3 0] [0, 4])
(.cond (.t 4)
(.seq
(.region none [
mv 5 0, bc 6 .add 5 1, ⟨some 7, .un .neg (.t 6), none⟩, ⟨some 8, .conv .u64 (.t 7), none⟩, ⟨some 9, .bin .add (.t 8) (.c (.int .u64 1)), none⟩, mv 2 9] [2])
.ret)
.skip))
(.seq
(.region none [
mv 10 0, ⟨some 11, .conv .u64 (.t 10), none⟩, mv 2 11] [2])
.ret))),
[.tmp 2]⟩
theorem x42_ok : ck x42 42 := by decide +kernel
/-- peloton/pelotonref17.Made -/
def x43 : XFunc := ⟨2,
(.seq
(.region none [
bx 2 0, bx 3 1, ⟨some 4, .alloc z7, none⟩] [2, 3, 4])
(.seq
(.region none [
ld 5 1 2, ld 6 2 3, p2 7 69 5 6, st 2 4 7] [4])
.ret)),
[.cell 4 (some 2)]⟩
theorem x43_ok : ck x43 43 := by decide +kernel
/-- peloton/pelotonref13.Renewed -/
def x44 : XFunc := ⟨3,
(.seq
(.region none [
bx 3 0, bx 4 1,
⟨some 6, .alloc z1, none⟩,
ic 7 0] [2, 3, 4, 6])
(.seq
(.region none [
ld 16 11 3, p1 17 25 16,
⟨some 8, .alloc z1, none⟩,
st 11 8 17] [2, 3, 4, 6, 8])
(.seq
(.seq
(.region none [
ic 9 0] [2, 3, 4, 6, 8, 9])
(.block 0
(.loop [(2, none), (3, none), (4, none), (6, none), (8, none), (9, none)]
(.seq
(.seq
(.region none [
mv 18 9, fa 19 3 3, fa 20 1 19, ln 21 20, le 22 21, bt 23 .lss 18 22] [2, 3, 4, 6, 8, 9, 23])
(.cond (.t 23)
.skip
(.exit 0)))
(.seq
(.block 1
(.seq
(.region none [
mv 26 2, fa 27 3 3, fa 28 1 27, ln 29 28, mv 30 9, ia 31 3 29 30, fa 32 1 31, ld 33 2 32, p2 34 70 26 33,
⟨some 35, .un .not (.t 34), none⟩] [2, 3, 4, 6, 8, 9, 35])
(.cond (.t 35)
(.region (some [0, 0, 2, 6, 0, 30, 62, 126, 255, 511]) [
ld 36 11 8, fa 37 3 3, fa 38 1 37, ln 39 38, mv 40 9, ia 41 3 39 40, fa 42 0 41, ln 43 42, p2 44 71 36 43, st 11 8 44] [2, 3, 4, 6, 8, 9])
.skip)))
(.region none [
mv 24 9, bc 25 .add 24 1, mv 9 25] [2, 3, 4, 6, 8, 9]))))))
(.seq
(.seq
(.region none [
fa 45 2 8, ld 46 1 45, ld 47 1 4, p2 48 54 46 47, ⟨some 49, .un .not (.t 48), none⟩] [2, 4, 6, 8, 49])
(.cond (.t 49)
(.seq
(.region none [
ld 51 11 8, ld 52 1 4, p2 53 72 51 52, mv 50 53, ex 54 0 50, ex 55 1 50,
⟨some 10, .alloc z1, none⟩,
st 11 10 54, mv 11 55] [2, 6, 8, 10, 11])
(.seq
(.seq
(.region none [
mv 56 11, bc 57 .neq 56 0] [2, 6, 8, 10, 11, 57])
(.cond (.t 57)
(.seq
(.region none [
⟨some 58, .build z1 [], none⟩,
mv 59 11, st 11 6 58, mv 7 59] [6, 7])
.ret)
.skip))
(.region none [
ld 60 11 10, st 11 8 60] [2, 6, 8])))
.skip))
(.seq
(.seq
(.region none [
ic 12 0] [2, 6, 8, 12])
(.block 2
(.loop [(2, none), (6, none), (8, none), (12, none)]
(.seq
(.seq
(.region none [
mv 61 12, mv 62 2, le 63 62, bt 64 .lss 61 63] [2, 6, 8, 12, 64])
(.cond (.t 64)
.skip
(.exit 2)))
(.seq
(.block 3
(.seq
(.seq
(.region (some [0, 1, 0, 0, 12, 28, 63]) [
fa 67 3 8, ld 68 2 67, mv 69 2, mv 70 12, ia 71 2 69 70, ld 72 2 71, p2 73 73 68 72] [2, 6, 8, 12, 73])
(.cond (.t 73)
(.exit 3)
.skip))
(.seq
(.region (some [0, 0, 0, 6, 14, 31, 63, 127, 127, 127, 0, 1279, 3583, 8191]) [
ld 75 11 8, mv 76 2, mv 77 12, ia 78 2 76 77, ld 79 2 78, p2 80 74 75 79, mv 74 80, ex 81 0 74, ex 82 1 74, ex 83 2 74,
⟨some 13, .alloc z1, none⟩,
st 11 13 81, mv 14 82, mv 15 83] [2, 6, 8, 12, 13, 15])
(.seq
(.seq
(.region none [
mv 84 15, bc 85 .neq 84 0] [2, 6, 8, 12, 13, 15, 85])
(.cond (.t 85)
(.seq
(.region none [
⟨some 86, .build z1 [], none⟩,
mv 87 15, st 11 6 86, mv 7 87] [6, 7])
.ret)
.skip))
(.region none [
ld 88 11 13, st 11 8 88] [2, 6, 8, 12])))))
(.region none [
mv 65 12, bc 66 .add 65 1, mv 12 66] [2, 6, 8, 12]))))))
(.seq
(.region none [
ld 89 11 8, st 11 6 89, ic 7 0] [6, 7])
.ret)))))),
[.cell 6 (some 11), .tmp 7]⟩
theorem x44_ok : ck x44 44 := by decide +kernel
/-- peloton/pelotonref17.Of -/
def x45 : XFunc := ⟨1,
(.seq
(.region none [
bx 1 0, ⟨some 2, .mov (.c (.sl 2 true [])), none⟩] [1])
(.seq
(.region none [
⟨some 3, .mov (.c (.sl 2 true [])), none⟩] [1, 3])
(.seq
(.seq
(.region none [
ic 4 0] [1, 3, 4])
(.block 0
(.loop [(1, none), (3, some 2), (4, none)]
(.seq
(.seq
(.region none [
mv 6 4, fa 7 1 1, ln 8 7, le 9 8, bt 10 .lss 6 9] [1, 3, 4, 10])
(.cond (.t 10)
.skip
(.exit 0)))
(.seq
(.block 1
(.seq
(.region none [
ic 5 0] [1, 3, 4, 5])
(.block 2
(.loop [(1, none), (3, some 2), (4, none), (5, none)]
(.seq
(.seq
(.region none [
mv 13 5, fa 14 1 1, ln 15 14, le 16 15, bt 17 .lss 13 16] [1, 3, 4, 5, 17])
(.cond (.t 17)
.skip
(.exit 2)))
(.seq
(.block 3
(.seq
(.region none [
fa 20 1 1, ln 21 20, mv 22 5, ia 23 3 21 22, fa 24 1 23, ln 25 24, mv 26 4, bt 27 .eql 25 26, mv 28 27, ⟨some 29, .fadr 1 (.t 1), (some (28, false))⟩,
⟨some 30, .load none (.t 29), (some (28, false))⟩, ⟨some 31, .mov (.t 5), (some (28, false))⟩, ⟨some 32, .iadr 3 (.t 30) (.t 31), (some (28, false))⟩,
⟨some 33, .fadr 2 (.t 32), (some (28, false))⟩, ⟨some 34, .load none (.t 33), (some (28, false))⟩, ⟨some 35, .mov (.t 4), (some (28, false))⟩,
⟨some 36, .bin .eql (.t 34) (.t 35), (some (28, false))⟩, por 37 28 36] [1, 3, 4, 5, 37])
(.cond (.t 37)
(.region (some [0, 0, 2, 0, 14, 30, 62, 0, 128, 0, 896, 1920, 3968, 8190, 16382, 32767, 65535]) [
mv 38 3, fa 39 1 1, ln 40 39, mv 41 4, ia 42 3 40 41, fa 43 0 42, ln 44 43, fa 45 1 1, ln 46 45, mv 47 5, ia 48 3 46 47, fa 49 0 48, ln 50 49,
⟨some 51, .build z8 [(0, 1, (.t 44)), (1, 1, (.t 50))], none⟩, ⟨some 52, .mkrow 2 1 z8 [(0, (.t 51))], none⟩,
ap 53 2 38 52, mv 3 53] [1, 3, 4, 5])
.skip)))
(.region none [
mv 18 5, bc 19 .add 18 1, mv 5 19] [1, 3, 4, 5])))))))
(.region none [
mv 11 4, bc 12 .add 11 1, mv 4 12] [1, 3, 4]))))))
(.seq
(.region none [
mv 54 3, mv 2 54] [2])
.ret)))),
[.tmp 2]⟩
theorem x45_ok : ck x45 45 := by decide +kernel
/-- peloton/pelotonref03.Twin -/
def x46 : XFunc := ⟨1,
(.seq
(.region none [
bx 1 0, ⟨some 2, .alloc [.sl 3 true []], none⟩] [1, 2])
(.seq
(.region none [
⟨some 3, .mkrow 3 0 z5 [], none⟩, fa 4 0 1, ln 5 4, ap 6 3 3 5, ⟨some 7, .build [.sl 3 true []] [(0, 1, (.t 6))], none⟩,
st 1 2 7] [2])
.ret)),
[.cell 2 (some 1)]⟩
theorem x46_ok : ck x46 46 := by decide +kernel
/-- peloton/pelotonref07.Begin -/
def x47 : XFunc := ⟨1,
(.seq
(.region none [
⟨some 2, .alloc z2, none⟩] [0, 2])
(.seq
(.region none [
mv 5 0, p1 6 75 5, ⟨some 7, .build z2 [(0, 3, (.t 6))], none⟩,
⟨some 3, .alloc z2, none⟩, st 5 3 7] [0, 2, 3])
(.seq
(.seq
(.region none [
ic 4 0] [0, 2, 3, 4])
(.block 0
(.loop [(0, none), (2, none), (3, none), (4, none), (3, some 5001)]
(.seq
(.seq
(.region none [
mv 8 4, mv 9 0, bt 10 .lss 8 9] [0, 2, 3, 4, 10])
(.cond (.t 10)
.skip
(.exit 0)))
(.seq
(.block 1
(.region none [
fa 13 4 3, ln 14 13, ⟨some 15, .mkrow 1 1 [.int .i64 0] [(0, (.c (.int .i64 (-1))))], none⟩, ap 16 1 14 15, fa 17 4 3, st 1 17 16] [0, 2, 3, 4]))
(.region none [
mv 11 4, bc 12 .add 11 1, mv 4 12] [0, 2, 3, 4]))))))
(.seq
(.region none [
ld 18 5 3, st 5 2 18] [2])
.ret)))),
[.cell 2 (some 5)]⟩
theorem x47_ok : ck x47 47 := by decide +kernel
/-- peloton/pelotonref08.Twin -/
def x48 : XFunc := ⟨1,
(.seq
(.region none [
bx 1 0, ⟨some 2, .alloc z7, none⟩] [1, 2])
(.seq
(.region (some [0, 1, 0, 0, 8, 28, 63, 127]) [
fa 3 0 1, ln 4 3, ⟨some 5, .mkrow 3 0 z5 [], none⟩, fa 6 1 1, ln 7 6, ap 8 3 5 7,
⟨some 9, .build z7 [(0, 1, (.t 4)), (1, 1, (.t 8))], none⟩, st 2 2 9] [2])
.ret)),
[.cell 2 (some 2)]⟩
theorem x48_ok : ck x48 48 := by decide +kernel
/-- peloton/pelotonref07.Twin -/
def x49 : XFunc := ⟨1,
(.seq
(.region none [
bx 1 0, ⟨some 2, .alloc z2, none⟩] [1, 2])
(.seq
(.region (some [0, 1, 3, 0, 0, 16, 63, 0, 0, 256, 1023, 2047, 4095]) [
fa 3 0 1, ld 4 3 3, ⟨some 5, .call .own 76 [(.t 4)], none⟩, ⟨some 6, .mkrow 5 0 z3 [], none⟩,
fa 7 3 1, ln 8 7, ap 9 5 6 8, ⟨some 10, .mkrow 1 0 [.int .i64 0] [], none⟩, fa 11 4 1, ln 12 11, ap 13 1 10 12,
⟨some 14, .build z2 [(0, 3, (.t 5)), (3, 1, (.t 9)), (4, 1, (.t 13))], none⟩,
st 5 2 14] [2])
.ret)),
[.cell 2 (some 5)]⟩
theorem x49_ok : ck x49 49 := by decide +kernel
/-- peloton/clock.Check -/
def x50 : XFunc := ⟨1,
(.seq
(.region none [
bx 1 0, ic 2 0] [1])
(.seq
(.seq
(.region (some [0, 1, 3, 0, 8, 31, 0, 64, 255, 0, 512, 2047, 4095, 8191, 0]) [
fa 12 0 1, ld 13 2 12, p1 14 77 13, fa 15 2 1, ld 16 1 15, p1 17 33 16, fa 18 3 1, ld 19 2 18, p1 20 78 19, fa 21 5 1, ld 22 5 21, p1 23 79 22,
⟨some 24, .mkrow 1 4 [.int .i64 0] [(0, (.t 14)), (1, (.t 17)), (2, (.t 20)), (3, (.t 23))], none⟩, le 25 24, ic 26 0] [1, 24, 25, 26])
(.block 0
(.loop [(1, none), (24, none), (25, none), (26, none)]
(.seq
(.region none [
bt 27 .lss 26 25] [1, 24, 25, 26, 27])
(.seq
(.cond (.t 27)
.skip
(.exit 0))
(.seq
(.block 1
(.seq
(.region none [
ia 28 1 24 26, ln 29 28, mv 4 29] [1, 4, 24, 25, 26])
(.seq
(.region none [
mv 30 4, bc 31 .neq 30 0] [1, 24, 25, 26, 31])
(.cond (.t 31)
(.seq
(.region none [
ic 2 8] [2])
.ret)
.skip))))
(.region none [
bc 32 .add 26 1, mv 26 32] [1, 24, 25, 26])))))))
(.seq
(.seq
(.region none [
fa 33 5 1, fa 34 4 33, ln 35 34, le 36 35, bc 37 .neq 36 200, mv 38 37, ⟨some 39, .fadr 5 (.t 1), (some (38, false))⟩,
⟨some 40, .fadr 3 (.t 39), (some (38, false))⟩, ⟨some 41, .load none (.t 40), (some (38, false))⟩, ⟨some 42, .len (.t 41), (some (38, false))⟩,
⟨some 43, .fadr 10 (.t 1), (some (38, false))⟩, ⟨some 44, .load none (.t 43), (some (38, false))⟩, ⟨some 45, .len (.t 44), (some (38, false))⟩,
⟨some 46, .bin .neq (.t 42) (.t 45), (some (38, false))⟩, por 47 38 46] [1, 47])
(.cond (.t 47)
(.seq
(.region none [
ic 2 8] [2])
.ret)
.skip))
(.seq
(.region none [
fa 48 10 1, ln 49 48, mv 5 49] [1, 5])
(.seq
(.seq
(.region none [
fa 50 3 1, fa 51 1 50, ln 52 51, le 53 52, ic 54 0] [1, 5, 52, 53, 54])
(.block 2
(.loop [(1, none), (5, none), (52, none), (53, none), (54, none)]
(.seq
(.region none [
bt 55 .lss 54 53] [1, 5, 52, 53, 54, 55])
(.seq
(.cond (.t 55)
.skip
(.exit 2))
(.seq
(.block 3
(.seq
(.region none [
ia 56 3 52 54, ld 57 3 56, ⟨some 7, .alloc z5, none⟩, st 3 7 57] [1, 5, 7, 52, 53, 54])
(.seq
(.region none [
fa 59 2 1, ld 60 1 59, fa 61 1 7, ld 62 2 61, fa 63 0 1, ld 64 2 63, p3 65 80 60 62 64, mv 58 65, ex 66 0 58, ex 67 1 58, ex 68 2 58,
⟨some 8, .alloc z8, none⟩, st 2 8 66, mv 9 67, mv 10 68] [1, 5, 7, 8, 9, 10, 52, 53, 54])
(.seq
(.seq
(.region none [
mv 69 10, bc 70 .neq 69 0] [1, 5, 7, 8, 9, 52, 53, 54, 70])
(.cond (.t 70)
(.seq
(.region none [
ic 2 8] [2])
.ret)
.skip))
(.seq
(.seq
(.region none [
mv 71 9, ⟨some 72, .un .not (.t 71), none⟩] [1, 5, 7, 8, 52, 53, 54, 72])
(.cond (.t 72)
(.exit 3)
.skip))
(.seq
(.seq
(.region (some [0, 1, 3, 7, 15, 31, 63, 127, 15, 271, 1023, 2047]) [
mv 73 5, le 74 73, bc 75 .eql 74 0, mv 76 75, ⟨some 77, .mov (.t 5), (some (76, false))⟩, ⟨some 78, .iadr 3 (.t 77) (.c (.int .i64 0)), (some (76, false))⟩,
⟨some 79, .fadr 0 (.t 78), (some (76, false))⟩, ⟨some 80, .load none (.t 79), (some (76, false))⟩, ⟨some 81, .fadr 0 (.t 7), (some (76, false))⟩,
⟨some 82, .load none (.t 81), (some (76, false))⟩, ⟨some 83, .bin .neq (.t 80) (.t 82), (some (76, false))⟩, por 84 76 83] [1, 5, 7, 8, 52, 53, 54, 84])
(.cond (.t 84)
(.seq
(.region none [
ic 2 8] [2])
.ret)
.skip))
(.seq
(.region none [
mv 85 5, ⟨some 86, .iadr 3 (.t 85) (.c (.int .i64 0)), none⟩, fa 87 1 86, ld 88 2 87, ⟨some 11, .alloc z8, none⟩,
st 2 11 88] [1, 5, 7, 8, 11, 52, 53, 54])
(.seq
(.seq
(.region (some [0, 1, 3, 7, 15, 31, 63, 127, 255, 511, 1023, 2047, 511, 4607, 16383, 32767, 65535, 131071, 262143, 524287, 1048575, 2097151, 524287, 4718591, 13107199, 524287, 34078719, 130547711, 264765439, 536870911, 1073741823, 524287, 524287, 4295491583, 524287, 32212779007, 68719476735, 137438953471]) [
fa 89 0 11, ln 90 89, bc 91 .lss 90 0, mv 92 91, ⟨some 93, .fadr 0 (.t 11), (some (92, false))⟩, ⟨some 94, .load none (.t 93), (some (92, false))⟩,
⟨some 95, .bin .geq (.t 94) (.c (.int .i64 200)), (some (92, false))⟩, por 96 92 95, mv 97 96, ⟨some 98, .fadr 5 (.t 1), (some (97, false))⟩,
⟨some 99, .fadr 4 (.t 98), (some (97, false))⟩, ⟨some 100, .load none (.t 99), (some (97, false))⟩, ⟨some 101, .fadr 0 (.t 11), (some (97, false))⟩,
⟨some 102, .load none (.t 101), (some (97, false))⟩, ⟨some 103, .iadr 1 (.t 100) (.t 102), (some (97, false))⟩,
⟨some 104, .load none (.t 103), (some (97, false))⟩, ⟨some 105, .bin .lss (.t 104) (.c (.int .i64 0)), (some (97, false))⟩, por 106 97 105, mv 107 106,
⟨some 108, .fadr 5 (.t 1), (some (107, false))⟩, ⟨some 109, .fadr 3 (.t 108), (some (107, false))⟩, ⟨some 110, .load none (.t 109), (some (107, false))⟩,
⟨some 111, .fadr 5 (.t 1), (some (107, false))⟩, ⟨some 112, .fadr 4 (.t 111), (some (107, false))⟩, ⟨some 113, .load none (.t 112), (some (107, false))⟩,
⟨some 114, .fadr 0 (.t 11), (some (107, false))⟩, ⟨some 115, .load none (.t 114), (some (107, false))⟩,
⟨some 116, .iadr 1 (.t 113) (.t 115), (some (107, false))⟩, ⟨some 117, .load none (.t 116), (some (107, false))⟩,
⟨some 118, .iadr 5 (.t 110) (.t 117), (some (107, false))⟩, ⟨some 119, .load (some 5) (.t 118), (some (107, false))⟩,
⟨some 120, .load (some 2) (.t 8), (some (107, false))⟩, ⟨some 121, .fadr 0 (.t 7), (some (107, false))⟩, ⟨some 122, .load none (.t 121), (some (107, false))⟩,
⟨some 123, .load (some 2) (.t 11), (some (107, false))⟩,
⟨some 124, .build z3 [(0, 2, (.t 120)), (2, 1, (.t 122)), (3, 2, (.t 123))], (some (107, false))⟩,
⟨some 125, .eqc 5 true (.t 119) (.t 124), (some (107, false))⟩, por 126 107 125] [1, 5, 52, 53, 54, 126])
(.cond (.t 126)
(.seq
(.region none [
ic 2 8] [2])
.ret)
.skip))
(.region none [
mv 127 5, ⟨some 128, .slc 3 (.t 127) (some (.c (.int .i64 1))) none none, none⟩, mv 5 128] [1, 5, 52, 53, 54])))))))))
(.region none [
bc 129 .add 54 1, mv 54 129] [1, 5, 52, 53, 54])))))))
(.seq
(.seq
(.region none [
mv 130 5, le 131 130, bc 132 .gtr 131 0] [132])
(.cond (.t 132)
(.seq
(.region none [
ic 2 8] [2])
.ret)
.skip))
(.seq
(.region none [
ic 2 0] [2])
.ret))))))),
[.tmp 2]⟩
theorem x50_ok : ck x50 50 := by decide +kernel
/-- peloton/heater.made -/
def x51 : XFunc := ⟨2,
(.seq
(.region none [
bx 2 0, bx 3 1, ⟨some 4, .alloc z7, none⟩, ⟨some 5, .mov (.c (.sl 2 true [])), none⟩] [2, 3, 4])
(.seq
(.region none [
ld 18 1 2, ld 19 2 3, p2 20 30 18 19, mv 17 20, ex 21 0 17, ex 22 1 17, ⟨some 6, .alloc z7, none⟩, st 2 6 21, mv 7 22] [4, 6])
(.seq
(.region none [
fa 23 1 6, ln 24 23, le 25 24, ⟨some 26, .mks 1 [.int .i64 0] (.t 25) (.t 25), none⟩, mv 8 26] [4, 6, 8])
(.seq
(.seq
(.region none [
mv 27 8, le 28 27, ic 29 0] [4, 6, 8, 28, 29])
(.block 0
(.loop [(4, none), (6, none), (8, none), (28, none), (29, none)]
(.seq
(.region none [
bt 30 .lss 29 28] [4, 6, 8, 28, 29, 30])
(.seq
(.cond (.t 30)
.skip
(.exit 0))
(.seq
(.block 1
(.seq
(.region none [
mv 31 29, mv 9 31] [4, 6, 8, 9, 28, 29])
(.region none [
mv 32 8, mv 33 9, ia 34 1 32 33, ⟨none, .store 1 (.t 34) (.c (.int .i64 (-1))), none⟩] [4, 6, 8, 28, 29])))
(.region none [
bc 35 .add 29 1, mv 29 35] [4, 6, 8, 28, 29])))))))
(.seq
(.seq
(.region none [
fa 36 1 6, ln 37 36, le 38 37, ic 39 0] [4, 6, 8, 37, 38, 39])
(.block 2
(.loop [(4, none), (6, none), (8, none), (37, none), (38, none), (39, none)]
(.seq
(.region none [
bt 40 .lss 39 38] [4, 6, 8, 37, 38, 39, 40])
(.seq
(.cond (.t 40)
.skip
(.exit 2))
(.seq
(.block 3
(.seq
(.region none [
mv 41 39, ia 42 3 37 39, ld 43 3 42, ⟨some 11, .alloc z5, none⟩, mv 10 41, st 3 11 43] [4, 6, 8, 10, 11, 37, 38, 39])
(.seq
(.region none [
fa 44 1 11, ln 45 44, fa 46 2 11, ln 47 46, ⟨some 48, .build z8 [(0, 1, (.t 45)), (1, 1, (.t 47))], none⟩,
ic 49 0] [4, 6, 8, 10, 37, 38, 39, 48, 49])
(.block 4
(.loop [(4, none), (6, none), (8, none), (10, none), (37, none), (38, none), (39, none), (48, none), (49, none)]
(.seq
(.region none [
bc 50 .lss 49 2] [4, 6, 8, 10, 37, 38, 39, 48, 49, 50])
(.seq
(.cond (.t 50)
.skip
(.exit 4))
(.seq
(.block 5
(.seq
(.region none [
⟨some 51, .idx 2 1 none (.t 48) (.t 49), none⟩, mv 13 51] [4, 6, 8, 10, 13, 37, 38, 39, 48, 49])
(.seq
(.region none [
mv 52 13, bc 53 .geq 52 0] [4, 6, 8, 10, 13, 37, 38, 39, 48, 49, 53])
(.cond (.t 53)
(.region none [
mv 54 8, mv 55 13, mv 56 10, ia 57 1 54 55, st 1 57 56] [4, 6, 8, 10, 37, 38, 39, 48, 49])
.skip))))
(.region none [
bc 58 .add 49 1, mv 49 58] [4, 6, 8, 10, 37, 38, 39, 48, 49])))))))))
(.region none [
bc 59 .add 39 1, mv 39 59] [4, 6, 8, 37, 38, 39])))))))
(.seq
(.region none [
⟨some 14, .mov (.c (.sl 2 true [])), none⟩] [4, 6, 8, 14])
(.seq
(.seq
(.region none [
fa 60 1 6, ln 61 60, le 62 61, ic 63 0] [4, 6, 8, 14, 61, 62, 63])
(.block 6
(.loop [(4, none), (6, none), (8, none), (14, some 2), (61, none), (62, none), (63, none)]
(.seq
(.region none [
bt 64 .lss 63 62] [4, 6, 8, 14, 61, 62, 63, 64])
(.seq
(.cond (.t 64)
.skip
(.exit 6))
(.seq
(.block 7
(.seq
(.region none [
mv 65 63, ia 66 3 61 63, ld 67 3 66, ⟨some 16, .alloc z5, none⟩, mv 15 65, st 3 16 67] [4, 6, 8, 14, 15, 16, 61, 62, 63])
(.seq
(.region none [
mv 68 8, mv 69 15, ia 70 1 68 69, ln 71 70, bc 72 .geq 71 0] [4, 6, 8, 14, 15, 16, 61, 62, 63, 72])
(.cond (.t 72)
(.region (some [0, 0, 2, 0, 8, 0, 0, 96, 224, 504, 1016, 2040, 4094, 8190, 16383, 32767]) [
mv 73 14, fa 74 0 16, ln 75 74, fa 76 1 6, ln 77 76, mv 78 8, mv 79 15, ia 80 1 78 79, ln 81 80, ia 82 3 77 81, fa 83 0 82, ln 84 83,
⟨some 85, .build z8 [(0, 1, (.t 75)), (1, 1, (.t 84))], none⟩, ⟨some 86, .mkrow 2 1 z8 [(0, (.t 85))], none⟩,
ap 87 2 73 86, mv 14 87] [4, 6, 8, 14, 61, 62, 63])
.skip))))
(.region none [
bc 88 .add 63 1, mv 63 88] [4, 6, 8, 14, 61, 62, 63])))))))
(.seq
(.region none [
ld 89 2 6, mv 90 14, st 2 4 89, mv 5 90] [4, 5])
.ret)))))))),
[.cell 4 (some 2), .tmp 5]⟩
theorem x51_ok : ck x51 51 := by decide +kernel
/-- slices.Equal[[]peloton/api.Node,peloton/api.Node] -/
def x52 : XFunc := ⟨2,
(.seq
(.region none [
⟨some 4, .mov (.c (.bool false)), none⟩] [0, 1])
(.seq
(.seq
(.region none [
mv 6 0, le 7 6, mv 8 1, le 9 8, bt 10 .neq 7 9] [0, 1, 10])
(.cond (.t 10)
(.seq
(.region none [
⟨some 4, .mov (.c (.bool false)), none⟩] [4])
.ret)
.skip))
(.seq
(.seq
(.region none [
mv 11 0, le 12 11, ic 13 0] [0, 1, 12, 13])
(.block 0
(.loop [(0, none), (1, none), (12, none), (13, none)]
(.seq
(.region none [
bt 14 .lss 13 12] [0, 1, 12, 13, 14])
(.seq
(.cond (.t 14)
.skip
(.exit 0))
(.seq
(.block 1
(.seq
(.region none [
mv 15 13, mv 5 15] [0, 1, 5, 12, 13])
(.seq
(.region (some [0, 0, 3, 7, 0, 0, 48, 112, 255]) [
mv 16 0, mv 17 5, ia 18 3 16 17, ld 19 3 18, mv 20 1, mv 21 5, ia 22 3 20 21, ld 23 3 22, ⟨some 24, .eqc 3 true (.t 19) (.t 23), none⟩] [0, 1, 12, 13, 24])
(.cond (.t 24)
(.seq
(.region none [
⟨some 4, .mov (.c (.bool false)), none⟩] [4])
.ret)
.skip))))
(.region none [
bc 25 .add 13 1, mv 13 25] [0, 1, 12, 13])))))))
(.seq
(.region none [
⟨some 4, .mov (.c (.bool true)), none⟩] [4])
.ret)))),
[.tmp 4]⟩
theorem x52_ok : ck x52 52 := by decide +kernel
/-- peloton/heater.just -/
def x53 : XFunc := ⟨2,
(.seq
(.region none [
bx 2 0, bx 3 1, ⟨some 4, .mov (.c (.bool false)), none⟩] [2, 3])
(.seq
(.region none [
⟨some 6, .mkf 81 [] [(.t 3)], none⟩, mv 5 6] [2, 3, 5])
(.seq
(.region none [
ln 7 3, le 8 7, fa 9 3 2, fa 10 1 9, ln 11 10, le 12 11, bt 13 .eql 8 12, mv 14 13, ⟨some 15, .fadr 3 (.t 2), (some (14, true))⟩,
⟨some 16, .fadr 1 (.t 15), (some (14, true))⟩, ⟨some 17, .load none (.t 16), (some (14, true))⟩, ⟨some 18, .mov (.t 5), (some (14, true))⟩,
⟨some 19, .call .pur 82 [(.t 17), (.t 18)], (some (14, true))⟩, ⟨some 20, .un .not (.t 19), (some (14, true))⟩, pan 21 14 20, mv 4 21] [4])
.ret))),
[.tmp 4]⟩
theorem x53_ok : ck x53 53 := by decide +kernel
/-- peloton/pelotonref03.Same -/
def x54 : XFunc := ⟨2,
(.seq
(.region none [
bx 2 0, bx 3 1, ⟨some 4, .mov (.c (.bool false)), none⟩] [2, 3])
(.seq
(.seq
(.region none [
fa 6 0 2, ln 7 6, le 8 7, fa 9 0 3, ln 10 9, le 11 10, bt 12 .neq 8 11] [2, 3, 12])
(.cond (.t 12)
(.seq
(.region none [
⟨some 4, .mov (.c (.bool false)), none⟩] [4])
.ret)
.skip))
(.seq
(.seq
(.region none [
ic 5 0] [2, 3, 5])
(.block 0
(.loop [(2, none), (3, none), (5, none)]
(.seq
(.seq
(.region none [
mv 13 5, fa 14 0 2, ln 15 14, le 16 15, bt 17 .lss 13 16] [2, 3, 5, 17])
(.cond (.t 17)
.skip
(.exit 0)))
(.seq
(.block 1
(.seq
(.region (some [0, 1, 0, 7, 15, 0, 32, 0, 224, 480, 1023]) [
fa 20 0 2, ln 21 20, mv 22 5, ia 23 3 21 22, ld 24 3 23, fa 25 0 3, ln 26 25, mv 27 5, ia 28 3 26 27, ld 29 3 28,
⟨some 30, .eqc 3 true (.t 24) (.t 29), none⟩] [2, 3, 5, 30])
(.cond (.t 30)
(.seq
(.region none [
⟨some 4, .mov (.c (.bool false)), none⟩] [4])
.ret)
.skip)))
(.region none [
mv 18 5, bc 19 .add 18 1, mv 5 19] [2, 3, 5]))))))
(.seq
(.region none [
⟨some 4, .mov (.c (.bool true)), none⟩] [4])
.ret)))),
[.tmp 4]⟩
theorem x54_ok : ck x54 54 := by decide +kernel
/-- peloton/pelotonref08.Same -/
def x55 : XFunc := ⟨2,
(.seq
(.region none [
bx 2 0, bx 3 1, ⟨some 4, .mov (.c (.bool false)), none⟩] [2, 3])
(.seq
(.seq
(.region none [
fa 6 0 2, ln 7 6, fa 8 0 3, ln 9 8, bt 10 .neq 7 9, mv 11 10, ⟨some 12, .fadr 1 (.t 2), (some (11, false))⟩, ⟨some 13, .load none (.t 12), (some (11, false))⟩,
⟨some 14, .len (.t 13), (some (11, false))⟩, ⟨some 15, .fadr 1 (.t 3), (some (11, false))⟩, ⟨some 16, .load none (.t 15), (some (11, false))⟩,
⟨some 17, .len (.t 16), (some (11, false))⟩, ⟨some 18, .bin .neq (.t 14) (.t 17), (some (11, false))⟩, por 19 11 18] [2, 3, 19])
(.cond (.t 19)
(.seq
(.region none [
⟨some 4, .mov (.c (.bool false)), none⟩] [4])
.ret)
.skip))
(.seq
(.seq
(.region none [
ic 5 0] [2, 3, 5])
(.block 0
(.loop [(2, none), (3, none), (5, none)]
(.seq
(.seq
(.region none [
mv 20 5, fa 21 1 2, ln 22 21, le 23 22, bt 24 .lss 20 23] [2, 3, 5, 24])
(.cond (.t 24)
.skip
(.exit 0)))
(.seq
(.block 1
(.seq
(.region (some [0, 1, 0, 7, 15, 0, 32, 0, 224, 480, 1023]) [
fa 27 1 2, ln 28 27, mv 29 5, ia 30 3 28 29, ld 31 3 30, fa 32 1 3, ln 33 32, mv 34 5, ia 35 3 33 34, ld 36 3 35,
⟨some 37, .eqc 3 true (.t 31) (.t 36), none⟩] [2, 3, 5, 37])
(.cond (.t 37)
(.seq
(.region none [
⟨some 4, .mov (.c (.bool false)), none⟩] [4])
.ret)
.skip)))
(.region none [
mv 25 5, bc 26 .add 25 1, mv 5 26] [2, 3, 5]))))))
(.seq
(.region none [
⟨some 4, .mov (.c (.bool true)), none⟩] [4])
.ret)))),
[.tmp 4]⟩
theorem x55_ok : ck x55 55 := by decide +kernel
/-- peloton/pelotonref07.Same -/
def x56 : XFunc := ⟨2,
(.seq
(.region none [
bx 2 0, bx 3 1, ⟨some 4, .mov (.c (.bool false)), none⟩] [2, 3])
(.seq
(.seq
(.region none [
fa 6 0 2, ld 7 3 6, fa 8 0 3, ld 9 3 8, p2 10 83 7 9, ⟨some 11, .un .not (.t 10), none⟩, mv 12 11, ⟨some 13, .fadr 4 (.t 2), (some (12, false))⟩,
⟨some 14, .load none (.t 13), (some (12, false))⟩, ⟨some 15, .fadr 4 (.t 3), (some (12, false))⟩, ⟨some 16, .load none (.t 15), (some (12, false))⟩,
⟨some 17, .call .pur 84 [(.t 14), (.t 16)], (some (12, false))⟩, ⟨some 18, .un .not (.t 17), (some (12, false))⟩, por 19 12 18, mv 20 19,
⟨some 21, .fadr 3 (.t 2), (some (20, false))⟩, ⟨some 22, .load none (.t 21), (some (20, false))⟩, ⟨some 23, .len (.t 22), (some (20, false))⟩,
⟨some 24, .fadr 3 (.t 3), (some (20, false))⟩, ⟨some 25, .load none (.t 24), (some (20, false))⟩, ⟨some 26, .len (.t 25), (some (20, false))⟩,
⟨some 27, .bin .neq (.t 23) (.t 26), (some (20, false))⟩, por 28 20 27] [2, 3, 28])
(.cond (.t 28)
(.seq
(.region none [
⟨some 4, .mov (.c (.bool false)), none⟩] [4])
.ret)
.skip))
(.seq
(.seq
(.region none [
ic 5 0] [2, 3, 5])
(.block 0
(.loop [(2, none), (3, none), (5, none)]
(.seq
(.seq
(.region none [
mv 29 5, fa 30 3 2, ln 31 30, le 32 31, bt 33 .lss 29 32] [2, 3, 5, 33])
(.cond (.t 33)
.skip
(.exit 0)))
(.seq
(.block 1
(.seq
(.region (some [0, 1, 0, 7, 15, 0, 32, 0, 224, 480, 1023]) [
fa 36 3 2, ln 37 36, mv 38 5, ia 39 5 37 38, ld 40 5 39, fa 41 3 3, ln 42 41, mv 43 5, ia 44 5 42 43, ld 45 5 44,
⟨some 46, .eqc 5 true (.t 40) (.t 45), none⟩] [2, 3, 5, 46])
(.cond (.t 46)
(.seq
(.region none [
⟨some 4, .mov (.c (.bool false)), none⟩] [4])
.ret)
.skip)))
(.region none [
mv 34 5, bc 35 .add 34 1, mv 5 35] [2, 3, 5]))))))
(.seq
(.region none [
⟨some 4, .mov (.c (.bool true)), none⟩] [4])
.ret)))),
[.tmp 4]⟩
theorem x56_ok : ck x56 56 := by decide +kernel
/-- peloton/cartes.timed -/
def x57 : XFunc := ⟨2,
(.seq
(.region none [
bx 2 0, bx 3 1, ic 4 0] [2, 3])
(.seq
(.seq
(.region none [
ld 6 1 2, p1 7 33 6, mv 5 7] [3, 5])
(.seq
(.region none [
mv 8 5, bc 9 .neq 8 0] [3, 5, 9])
(.cond (.t 9)
(.seq
(.region none [
mv 10 5, mv 4 10] [4])
.ret)
.skip)))
(.seq
(.region none [
ld 11 2 3, p1 12 77 11, mv 4 12] [4])
.ret))),
[.tmp 4]⟩
theorem x57_ok : ck x57 57 := by decide +kernel
/-- peloton/course.Ahead -/
def x58 : XFunc := ⟨3,
(.seq
(.region none [
bx 3 0, bx 4 1, bx 5 2, ⟨some 6, .mov (.c (.bool false)), none⟩, ic 7 0] [3, 4, 5])
(.seq
(.seq
(.region none [
ld 9 3 3, ld 10 3 4, ld 11 2 5, p3 12 85 9 10 11, mv 8 12] [3, 4, 5, 8])
(.seq
(.region none [
mv 13 8, bc 14 .neq 13 0] [3, 4, 5, 8, 14])
(.cond (.t 14)
(.seq
(.region none [
mv 15 8, ⟨some 6, .mov (.c (.bool false)), none⟩, mv 7 15] [6, 7])
.ret)
.skip)))
(.seq
(.region none [
ld 16 3 3, ld 17 3 4, ld 18 2 5, p3 19 86 16 17 18, bc 20 .gtr 19 0, mv 6 20, ic 7 0] [6, 7])
.ret))),
[.tmp 6, .tmp 7]⟩
theorem x58_ok : ck x58 58 := by decide +kernel
/-- slices.Contains[[]peloton/api.Cert,peloton/api.Cert] -/
def x59 : XFunc := ⟨2,
(.seq
(.region none [
bx 3 1, ⟨some 4, .mov (.c (.bool false)), none⟩] [0, 3])
(.seq
(.region none [
mv 5 0, ld 6 2 3, p2 7 87 5 6, bc 8 .geq 7 0, mv 4 8] [4])
.ret)),
[.tmp 4]⟩
theorem x59_ok : ck x59 59 := by decide +kernel
/-- peloton/field.Find -/
def x60 : XFunc := ⟨2,
(.seq
(.region none [
bx 2 0, ⟨some 4, .alloc z5, none⟩, ic 5 0] [1, 2, 4])
(.seq
(.region none [
ld 9 1 2, mv 10 1, p2 11 38 9 10, mv 8 11, ex 12 0 8, ex 13 1 8, mv 6 12, mv 7 13] [2, 4, 6, 7])
(.seq
(.seq
(.region none [
mv 14 7, bc 15 .neq 14 0] [2, 4, 6, 7, 15])
(.cond (.t 15)
(.seq
(.region none [
⟨some 16, .build z5 [], none⟩, mv 17 7, st 3 4 16, mv 5 17] [4, 5])
.ret)
.skip))
(.seq
(.region none [
fa 18 0 2, ln 19 18, mv 20 6, ia 21 3 19 20, ld 22 3 21, st 3 4 22, ic 5 0] [4, 5])
.ret)))),
[.cell 4 (some 3), .tmp 5]⟩
theorem x60_ok : ck x60 60 := by decide +kernel
/-- peloton/kheap.renew -/
def x61 : XFunc := ⟨3,
(.seq
(.region none [
bx 3 0, bx 4 1,
⟨some 6, .alloc z1, none⟩,
ic 7 0] [2, 3, 4, 6])
(.seq
(.seq
(.region none [
fa 13 3 3, fa 14 1 13, ln 15 14, le 16 15, ic 17 0] [2, 3, 4, 6, 15, 16, 17])
(.block 0
(.loop [(2, none), (3, none), (4, none), (6, none), (15, none), (16, none), (17, none)]
(.seq
(.region none [
bt 18 .lss 17 16] [2, 3, 4, 6, 15, 16, 17, 18])
(.seq
(.cond (.t 18)
.skip
(.exit 0))
(.seq
(.block 1
(.seq
(.region none [
ia 19 3 15 17, ld 20 3 19, ⟨some 9, .alloc z5, none⟩, st 3 9 20] [2, 3, 4, 6, 9, 15, 16, 17])
(.seq
(.region none [
mv 21 2, fa 22 1 9, ld 23 2 22, p2 24 59 21 23, ⟨some 25, .un .not (.t 24), none⟩] [2, 3, 4, 6, 9, 15, 16, 17, 25])
(.cond (.t 25)
(.region none [
ld 27 11 3, fa 28 0 9, ln 29 28, p2 30 88 27 29, mv 26 30, ex 31 0 26, ex 32 1 26, st 11 3 31] [2, 3, 4, 6, 15, 16, 17])
.skip))))
(.region none [
bc 33 .add 17 1, mv 17 33] [2, 3, 4, 6, 15, 16, 17])))))))
(.seq
(.region none [
ic 10 0] [2, 3, 4, 6])
(.seq
(.seq
(.region none [
fa 34 2 3, fa 35 0 34, ln 36 35, fa 37 0 4, ln 38 37, p2 39 89 36 38, ⟨some 40, .un .not (.t 39), none⟩] [2, 3, 4, 6, 40])
(.cond (.t 40)
(.seq
(.region none [
ld 42 11 3, ld 43 1 4, p2 44 90 42 43, mv 41 44, ex 45 0 41, ex 46 1 41, st 11 3 45, mv 10 46] [2, 3, 6, 10])
(.seq
(.region none [
mv 47 10, bc 48 .neq 47 0] [2, 3, 6, 10, 48])
(.cond (.t 48)
(.seq
(.region none [
⟨some 49, .build z1 [], none⟩,
mv 50 10, st 11 6 49, mv 7 50] [6, 7])
.ret)
.skip)))
.skip))
(.seq
(.seq
(.region none [
mv 51 2, le 52 51, ic 53 0] [3, 6, 51, 52, 53])
(.block 2
(.loop [(3, none), (6, none), (51, none), (52, none), (53, none)]
(.seq
(.region none [
bt 54 .lss 53 52] [3, 6, 51, 52, 53, 54])
(.seq
(.cond (.t 54)
.skip
(.exit 2))
(.seq
(.block 3
(.seq
(.region none [
ia 55 2 51 53, ld 56 2 55, ⟨some 12, .alloc z8, none⟩, st 2 12 56] [3, 6, 12, 51, 52, 53])
(.seq
(.seq
(.region none [
fa 57 3 3, fa 58 1 57, ln 59 58, ⟨some 60, .mkf 91 [] [(.t 12)], none⟩, p2 61 82 59 60] [3, 6, 12, 51, 52, 53, 61])
(.cond (.t 61)
(.exit 3)
.skip))
(.seq
(.region none [
ld 63 11 3, ld 64 2 12, p2 65 92 63 64, mv 62 65, ex 66 0 62, ex 67 1 62, ex 68 2 62, st 11 3 66, mv 10 68] [3, 6, 10, 51, 52, 53])
(.seq
(.region none [
mv 69 10, bc 70 .neq 69 0] [3, 6, 10, 51, 52, 53, 70])
(.cond (.t 70)
(.seq
(.region none [
⟨some 71, .build z1 [], none⟩,
mv 72 10, st 11 6 71, mv 7 72] [6, 7])
.ret)
.skip))))))
(.region none [
bc 73 .add 53 1, mv 53 73] [3, 6, 51, 52, 53])))))))
(.seq
(.region none [
ld 74 11 3, st 11 6 74, ic 7 0] [6, 7])
.ret)))))),
[.cell 6 (some 11), .tmp 7]⟩
theorem x61_ok : ck x61 61 := by decide +kernel
/-- peloton/kheap.twin -/
def x62 : XFunc := ⟨1,
(.seq
(.region none [
bx 1 0,
⟨some 2, .alloc z1, none⟩] [1, 2])
(.seq
(.region none [
fa 4 2 1, fa 5 0 4, ln 6 5, p1 7 37 6, fa 8 2 1, fa 9 0 8, st 1 9 7] [1, 2])
(.seq
(.region none [
fa 10 3 1, fa 11 1 10, ln 12 11, p1 13 93 12, fa 14 3 1, fa 15 1 14, st 1 15 13] [1, 2])
(.seq
(.region none [
fa 16 10 1, ln 17 16, p1 18 94 17, fa 19 10 1, st 1 19 18] [1, 2])
(.seq
(.region none [
fa 20 5 1, mv 3 20] [1, 2, 3])
(.seq
(.region (some [0, 0, 0, 4, 12, 28, 60, 0, 128, 384, 896, 2044, 4093, 8189, 16381, 32767, 65535, 131071]) [
mv 21 3, mv 22 3, mv 23 3, ⟨some 24, .nilc (.t 23), none⟩, fa 25 3 24, ln 26 25, p1 27 95 26, mv 28 3, ⟨some 29, .nilc (.t 28), none⟩, fa 30 4 29, ln 31 30,
p1 32 96 31, ⟨some 33, .nilc (.t 21), none⟩, fa 34 3 33, st 1 34 27, ⟨some 35, .nilc (.t 22), none⟩, fa 36 4 35, st 1 36 32] [1, 2, 3])
(.seq
(.region (some [0, 0, 0, 0, 8, 24, 56, 120, 248, 0, 512, 1536, 3584, 7680, 16376, 0, 32768, 98304, 229376, 491520, 1048568, 2097145, 4194297, 8388601, 16777209, 33554427, 67108859, 134217723, 268435451, 536870911, 1073741823, 2147483647, 4294967295]) [
mv 37 3, mv 38 3, mv 39 3, mv 40 3, ⟨some 41, .nilc (.t 40), none⟩, fa 42 0 41, fa 43 0 42, ln 44 43, p1 45 96 44, mv 46 3, ⟨some 47, .nilc (.t 46), none⟩,
fa 48 0 47, fa 49 1 48, ln 50 49, p1 51 97 50, mv 52 3, ⟨some 53, .nilc (.t 52), none⟩, fa 54 0 53, fa 55 2 54, ln 56 55, p1 57 96 56,
⟨some 58, .nilc (.t 37), none⟩, fa 59 0 58, fa 60 0 59, st 1 60 45, ⟨some 61, .nilc (.t 38), none⟩, fa 62 0 61, fa 63 1 62, st 1 63 51,
⟨some 64, .nilc (.t 39), none⟩, fa 65 0 64, fa 66 2 65, st 1 66 57] [1, 2])
(.seq
(.region none [
ld 67 11 1, st 11 2 67] [2])
.ret)))))))),
[.cell 2 (some 11)]⟩
theorem x62_ok : ck x62 62 := by decide +kernel
/-- peloton/course.Check$1 -/
def x63 : XFunc := ⟨1,
(.seq
(.region none [
⟨some 2, .mov (.c (.bool false)), none⟩] [0])
(.seq
(.region none [
mv 3 0, bc 4 .lss 3 (-1048576), mv 5 4, ⟨some 6, .mov (.t 0), (some (5, false))⟩, ⟨some 7, .bin .gtr (.t 6) (.c (.int .i64 1048576)), (some (5, false))⟩,
por 8 5 7, mv 2 8] [2])
.ret)),
[.tmp 2]⟩
theorem x63_ok : ck x63 63 := by decide +kernel
/-- slices.BinarySearchFunc[[]peloton/api.Point,peloton/api.Point,int] -/
def x64 : XFunc := ⟨3,
(.seq
(.region none [
ic 6 0, ⟨some 7, .mov (.c (.bool false)), none⟩] [0, 1, 2])
(.seq
(.region none [
mv 12 0, le 13 12, mv 8 13] [0, 1, 2, 8])
(.seq
(.region none [
mv 14 8, ic 9 0, mv 10 14] [0, 1, 2, 8, 9, 10])
(.seq
(.block 0
(.loop [(0, none), (1, none), (2, none), (8, none), (9, none), (10, none)]
(.seq
(.seq
(.region none [
mv 15 9, mv 16 10, bt 17 .lss 15 16] [0, 1, 2, 8, 9, 10, 17])
(.cond (.t 17)
.skip
(.exit 0)))
(.block 1
(.seq
(.region none [
mv 18 9, mv 19 10, bt 20 .add 18 19, ⟨some 21, .conv .u64 (.t 20), none⟩, ⟨some 22, .bin .shr (.t 21) (.c (.int .u64 1)), none⟩,
⟨some 23, .conv .i64 (.t 22), none⟩, mv 11 23] [0, 1, 2, 8, 9, 10, 11])
(.seq
(.region none [
mv 24 2, mv 25 0, mv 26 11, ia 27 3 25 26, ld 28 3 27, mv 29 1, ⟨some 30, .callv (.t 24) [(.t 28), (.t 29)], none⟩,
bc 31 .lss 30 0] [0, 1, 2, 8, 9, 10, 11, 31])
(.cond (.t 31)
(.region none [
mv 32 11, bc 33 .add 32 1, mv 9 33] [0, 1, 2, 8, 9, 10])
(.region none [
mv 34 11, mv 10 34] [0, 1, 2, 8, 9, 10]))))))))
(.seq
(.region none [
mv 35 9, mv 36 9, mv 37 8, bt 38 .lss 36 37, mv 39 38, ⟨some 40, .mov (.t 2), (some (39, true))⟩, ⟨some 41, .mov (.t 0), (some (39, true))⟩,
⟨some 42, .mov (.t 9), (some (39, true))⟩, ⟨some 43, .iadr 3 (.t 41) (.t 42), (some (39, true))⟩, ⟨some 44, .load (some 3) (.t 43), (some (39, true))⟩,
⟨some 45, .mov (.t 1), (some (39, true))⟩, ⟨some 46, .callv (.t 40) [(.t 44), (.t 45)], (some (39, true))⟩,
⟨some 47, .bin .eql (.t 46) (.c (.int .i64 0)), (some (39, true))⟩, pan 48 39 47, mv 6 35, mv 7 48] [6, 7])
.ret))))),
[.tmp 6, .tmp 7]⟩
theorem x64_ok : ck x64 64 := by decide +kernel
/-- peloton/field.find$1 -/
def x65 : XFunc := ⟨2,
(.seq
(.region none [
bx 2 0, ic 4 0] [1, 2])
(.seq
(.region none [
fa 5 0 2, ln 6 5, mv 7 1, p2 8 66 6 7, mv 4 8] [4])
.ret)),
[.tmp 4]⟩
theorem x65_ok : ck x65 65 := by decide +kernel
/-- cmp.Compare[int] -/
def x66 : XFunc := ⟨2,
(.seq
(.region none [
ic 4 0] [0, 1])
(.seq
(.region none [
mv 7 0, p1 8 98 7, mv 5 8] [0, 1, 5])
(.seq
(.region none [
mv 9 1, p1 10 98 9, mv 6 10] [0, 1, 5, 6])
(.seq
(.seq
(.region none [
mv 11 5] [0, 1, 6, 11])
(.cond (.t 11)
(.seq
(.seq
(.region none [
mv 12 6] [12])
(.cond (.t 12)
(.seq
(.region none [
ic 4 0] [4])
.ret)
.skip))
(.seq
(.region none [
ic 4 (-1)] [4])
.ret))
.skip))
(.seq
(.seq
(.region none [
mv 13 6] [0, 1, 13])
(.cond (.t 13)
(.seq
(.region none [
ic 4 1] [4])
.ret)
.skip))
(.seq
(.seq
(.region none [
mv 14 0, mv 15 1, bt 16 .lss 14 15] [0, 1, 16])
(.cond (.t 16)
(.seq
(.region none [
ic 4 (-1)] [4])
.ret)
.skip))
(.seq
(.seq
(.region none [
mv 17 0, mv 18 1, bt 19 .gtr 17 18] [19])
(.cond (.t 19)
(.seq
(.region none [
ic 4 1] [4])
.ret)
.skip))
(.seq
(.region none [
ic 4 0] [4])
.ret)))))))),
[.tmp 4]⟩
theorem x66_ok : ck x66 66 := by decide +kernel
/-- slices.rotateRight[peloton/api.Point] -/
def x68 : XFunc := ⟨2,
(.region none [
mv 4 0, mv 5 0, le 6 5, mv 7 1, bt 8 .sub 6 7, p2 9 99 4 8] []),
[]⟩
theorem x68_ok : ck x68 68 := by decide +kernel
/-- peloton/pelotonref11.Made -/
def x69 : XFunc := ⟨2,
(.seq
(.region none [
bx 2 0, bx 3 1, ⟨some 4, .alloc z7, none⟩] [2, 3, 4])
(.seq
(.region none [
⟨some 5, .alloc z7, none⟩] [2, 3, 4, 5])
(.seq
(.seq
(.region none [
ic 6 0] [2, 3, 4, 5, 6])
(.block 0
(.loop [(2, none), (3, none), (4, none), (5, none), (6, none), (5, some 2003)]
(.seq
(.seq
(.region none [
mv 7 6, fa 8 0 2, ln 9 8, le 10 9, bt 11 .lss 7 10] [2, 3, 4, 5, 6, 11])
(.cond (.t 11)
.skip
(.exit 0)))
(.seq
(.block 1
(.region (some [0, 1, 0, 4, 0, 28, 60, 124, 252, 508, 1023, 2047, 4095]) [
fa 14 1 5, ln 15 14, fa 16 0 2, ln 17 16, mv 18 6, ia 19 3 17 18, fa 20 0 19, ln 21 20,
⟨some 22, .build z5 [(0, 1, (.t 21))], none⟩,
⟨some 23, .mkrow 3 1 z5 [(0, (.t 22))], none⟩, ap 24 3 15 23, fa 25 1 5, st 1 25 24] [2, 3, 4, 5, 6]))
(.region none [
mv 12 6, bc 13 .add 12 1, mv 6 13] [2, 3, 4, 5, 6]))))))
(.seq
(.region none [
ld 26 1 2, ld 27 2 3, ld 28 2 5, fa 29 0 2, ln 30 29, le 31 30, ⟨some 32, .call .fp 100 [(.t 26), (.t 27), (.t 28), (.c (.int .i64 0)), (.t 31)], none⟩,
fa 33 0 5, st 1 33 32] [4, 5])
(.seq
(.region none [
ld 34 2 5, st 2 4 34] [4])
.ret))))),
[.cell 4 (some 2)]⟩
theorem x69_ok : ck x69 69 := by decide +kernel
/-- peloton/pelotonref13.In -/
def x70 : XFunc := ⟨2,
(.seq
(.region none [
bx 3 1, ⟨some 4, .mov (.c (.bool false)), none⟩] [0, 3])
(.seq
(.seq
(.region none [
ic 5 0] [0, 3, 5])
(.block 0
(.loop [(0, none), (3, none), (5, none)]
(.seq
(.seq
(.region none [
mv 6 5, mv 7 0, le 8 7, bt 9 .lss 6 8] [0, 3, 5, 9])
(.cond (.t 9)
.skip
(.exit 0)))
(.seq
(.block 1
(.seq
(.region (some [0, 0, 3, 7, 0, 31]) [
mv 12 0, mv 13 5, ia 14 2 12 13, ld 15 2 14, ld 16 2 3, ⟨some 17, .eqc 2 false (.t 15) (.t 16), none⟩] [0, 3, 5, 17])
(.cond (.t 17)
(.seq
(.region none [
⟨some 4, .mov (.c (.bool true)), none⟩] [4])
.ret)
.skip)))
(.region none [
mv 10 5, bc 11 .add 10 1, mv 5 11] [0, 3, 5]))))))
(.seq
(.region none [
⟨some 4, .mov (.c (.bool false)), none⟩] [4])
.ret))),
[.tmp 4]⟩
theorem x70_ok : ck x70 70 := by decide +kernel
/-- peloton/pelotonref09.Gone -/
def x71 : XFunc := ⟨2,
(.seq
(.region none [
bx 2 0,
⟨some 4, .alloc z1, none⟩] [1, 2, 4])
(.seq
(.region none [
ld 7 11 2, ⟨some 8, .call .own 25 [(.t 7)], none⟩,
⟨some 5, .alloc z1, none⟩,
st 11 5 8] [1, 2, 4, 5])
(.seq
(.region none [
fa 9 3 2, ld 10 2 9, mv 11 1, p2 12 101 10 11, fa 13 3 5, st 2 13 12] [1, 2, 4, 5])
(.seq
(.seq
(.region none [
ld 14 11 2, mv 15 1, p2 16 102 14 15, mv 6 16] [2, 4, 5, 6])
(.seq
(.region none [
mv 17 6, bc 18 .geq 17 0] [2, 4, 5, 6, 18])
(.cond (.t 18)
(.seq
(.region (some [0, 1, 0, 4, 0, 28, 60, 124, 255, 511, 1023]) [
fa 19 5 2, ld 20 5 19, fa 21 10 2, ln 22 21, mv 23 6, ia 24 3 22 23, fa 25 1 24, ld 26 2 25, p2 27 103 20 26, fa 28 5 5, st 5 28 27] [2, 4, 5, 6])
(.region (some [0, 0, 2, 0, 14, 31, 0, 64, 0, 256, 960, 2047, 4095, 8191]) [
⟨some 29, .mkrow 3 0 z5 [], none⟩, fa 30 10 2, ln 31 30, mv 32 6, ⟨some 33, .slc 3 (.t 31) none (some (.t 32)) none, none⟩,
ap 34 3 29 33, fa 35 10 2, ln 36 35, mv 37 6, bc 38 .add 37 1, ⟨some 39, .slc 3 (.t 36) (some (.t 38)) none none, none⟩, ap 40 3 34 39, fa 41 10 5,
st 1 41 40] [4, 5]))
.skip)))
(.seq
(.region none [
ld 42 11 5, st 11 4 42] [4])
.ret))))),
[.cell 4 (some 11)]⟩
theorem x71_ok : ck x71 71 := by decide +kernel
/-- peloton/pelotonref09.Altered -/
def x72 : XFunc := ⟨2,
(.seq
(.region none [
bx 2 0, bx 3 1,
⟨some 4, .alloc z1, none⟩,
ic 5 0] [2, 3, 4])
(.seq
(.region none [
ld 14 11 2, p1 15 25 14,
⟨some 6, .alloc z1, none⟩,
st 11 6 15] [2, 3, 4, 6])
(.seq
(.region none [
ld 16 1 3, p1 17 46 16, fa 18 2 6, st 1 18 17] [2, 3, 4, 6])
(.seq
(.region none [
fa 19 10 6, ⟨none, .store 1 (.t 19) (.c (.sl 3 true [])), none⟩] [2, 3, 4, 6])
(.seq
(.seq
(.region none [
ic 7 0] [2, 3, 4, 6, 7])
(.block 0
(.loop [(2, none), (3, none), (4, none), (6, none), (7, none), (6, some 11003)]
(.seq
(.seq
(.region none [
mv 20 7, fa 21 3 2, fa 22 1 21, ln 23 22, le 24 23, bt 25 .lss 20 24] [2, 3, 4, 6, 7, 25])
(.cond (.t 25)
.skip
(.exit 0)))
(.seq
(.block 1
(.seq
(.region none [
fa 28 3 2, fa 29 1 28, ln 30 29, mv 31 7, ia 32 3 30 31, ld 33 3 32, ⟨some 8, .alloc z5, none⟩,
st 3 8 33] [2, 3, 4, 6, 7, 8])
(.seq
(.region none [
ld 34 11 2, fa 35 0 8, ln 36 35, p2 37 102 34 36, mv 9 37] [2, 3, 4, 6, 7, 8, 9])
(.seq
(.region none [
ld 39 1 3, fa 40 1 8, ld 41 2 40, fa 42 0 2, ld 43 2 42, p3 44 104 39 41 43, mv 38 44, ex 45 0 38, ex 46 1 38,
⟨some 10, .alloc z8, none⟩, st 2 10 45, mv 11 46] [2, 3, 4, 6, 7, 8, 9, 10, 11])
(.seq
(.seq
(.region none [
mv 47 11, mv 48 47, ⟨some 49, .mov (.t 9), (some (48, true))⟩, ⟨some 50, .bin .geq (.t 49) (.c (.int .i64 0)), (some (48, true))⟩,
pan 51 48 50] [2, 3, 4, 6, 7, 8, 9, 10, 11, 51])
(.cond (.t 51)
(.seq
(.region (some [0, 1, 0, 4, 0, 28, 60, 124, 0, 511, 1023, 2047]) [
fa 52 5 6, ld 53 5 52, fa 54 10 2, ln 55 54, mv 56 9, ia 57 3 55 56, fa 58 1 57, ld 59 2 58, ld 60 2 10, p3 61 105 53 59 60, fa 62 5 6,
st 5 62 61] [2, 3, 4, 6, 7, 8, 9, 10, 11])
(.region (some [0, 1, 0, 4, 0, 28, 60, 124, 255, 511, 1023]) [
fa 63 10 6, ln 64 63, fa 65 10 2, ln 66 65, mv 67 9, ia 68 3 66 67, ld 69 3 68,
⟨some 70, .mkrow 3 1 z5 [(0, (.t 69))], none⟩, ap 71 3 64 70, fa 72 10 6, st 1 72 71] [2, 3, 4, 6, 7, 8, 9, 10, 11]))
.skip))
(.seq
(.seq
(.region none [
mv 73 11, ⟨some 74, .un .not (.t 73), none⟩, mv 75 74, ⟨some 76, .mov (.t 9), (some (75, true))⟩,
⟨some 77, .bin .geq (.t 76) (.c (.int .i64 0)), (some (75, true))⟩, pan 78 75 77] [2, 3, 4, 6, 7, 8, 9, 10, 11, 78])
(.cond (.t 78)
(.region (some [0, 1, 0, 4, 0, 28, 60, 124, 255, 511, 1023]) [
fa 79 5 6, ld 80 5 79, fa 81 10 2, ln 82 81, mv 83 9, ia 84 3 82 83, fa 85 1 84, ld 86 2 85, p2 87 103 80 86, fa 88 5 6,
st 5 88 87] [2, 3, 4, 6, 7, 8, 9, 10, 11])
.skip))
(.seq
(.seq
(.region none [
mv 89 11, ⟨some 90, .un .not (.t 89), none⟩, mv 91 90, ⟨some 92, .mov (.t 9), (some (91, false))⟩,
⟨some 93, .bin .geq (.t 92) (.c (.int .i64 0)), (some (91, false))⟩, por 94 91 93] [2, 3, 4, 6, 7, 8, 10, 94])
(.cond (.t 94)
(.exit 1)
.skip))
(.seq
(.seq
(.region none [
fa 95 5 6, fa 96 0 95, ld 97 3 96, p1 98 106 97, ⟨some 99, .un .not (.t 98), none⟩] [2, 3, 4, 6, 7, 8, 10, 99])
(.cond (.t 99)
(.seq
(.region none [
⟨some 100, .build z1 [], none⟩,
st 11 4 100, ic 5 18] [4, 5])
.ret)
.skip))
(.seq
(.region none [
fa 102 5 6, ld 103 5 102, ld 104 2 10, fa 105 0 8, ln 106 105, p3 107 107 103 104 106, mv 101 107, ex 108 0 101, ex 109 1 101,
⟨some 12, .alloc z2, none⟩, ⟨some 13, .alloc z8, none⟩,
st 5 12 108, st 2 13 109] [2, 3, 4, 6, 7, 8, 12, 13])
(.seq
(.region none [
ld 110 5 12, fa 111 5 6, st 5 111 110] [2, 3, 4, 6, 7, 8, 13])
(.region none [
fa 112 10 6, ln 113 112, fa 114 0 8, ln 115 114, ld 116 2 13,
⟨some 117, .build z5 [(0, 1, (.t 115)), (1, 2, (.t 116))], none⟩,
⟨some 118, .mkrow 3 1 z5 [(0, (.t 117))], none⟩, ap 119 3 113 118, fa 120 10 6, st 1 120 119] [2, 3, 4, 6, 7])))))))))))
(.region none [
mv 26 7, bc 27 .add 26 1, mv 7 27] [2, 3, 4, 6, 7]))))))
(.seq
(.region none [
ld 121 11 6, st 11 4 121, ic 5 0] [4, 5])
.ret)))))),
[.cell 4 (some 11), .tmp 5]⟩
theorem x72_ok : ck x72 72 := by decide +kernel
/-- peloton/pelotonref08.Has -/
def x73 : XFunc := ⟨2,
(.seq
(.region none [
bx 2 0, bx 3 1, ⟨some 4, .mov (.c (.bool false)), none⟩] [2, 3])
(.seq
(.seq
(.region none [
ic 5 0] [2, 3, 5])
(.block 0
(.loop [(2, none), (3, none), (5, none)]
(.seq
(.seq
(.region none [
mv 6 5, fa 7 1 2, ln 8 7, le 9 8, bt 10 .lss 6 9] [2, 3, 5, 10])
(.cond (.t 10)
.skip
(.exit 0)))
(.seq
(.block 1
(.seq
(.region (some [0, 1, 0, 7, 15, 31, 0, 127]) [
fa 13 1 2, ln 14 13, mv 15 5, ia 16 3 14 15, fa 17 1 16, ld 18 2 17, ld 19 2 3, ⟨some 20, .eqc 2 false (.t 18) (.t 19), none⟩] [2, 3, 5, 20])
(.cond (.t 20)
(.seq
(.region none [
⟨some 4, .mov (.c (.bool true)), none⟩] [4])
.ret)
.skip)))
(.region none [
mv 11 5, bc 12 .add 11 1, mv 5 12] [2, 3, 5]))))))
(.seq
(.region none [
⟨some 4, .mov (.c (.bool false)), none⟩] [4])
.ret))),
[.tmp 4]⟩
theorem x73_ok : ck x73 73 := by decide +kernel
/-- peloton/pelotonref09.Added -/
def x74 : XFunc := ⟨2,
(.seq
(.region none [
bx 2 0, bx 3 1,
⟨some 4, .alloc z1, none⟩,
ic 5 0, ic 6 0] [2, 3, 4])
(.seq
(.region none [
fa 16 3 2, ld 17 2 16, ld 18 2 3, p2 19 108 17 18, mv 15 19, ex 20 0 15, ex 21 1 15, ex 22 2 15, ⟨some 7, .alloc z7, none⟩, st 2 7 20,
mv 8 21, mv 9 22] [2, 3, 4, 7, 8, 9])
(.seq
(.seq
(.region none [
mv 23 9, bc 24 .neq 23 0] [2, 3, 4, 7, 8, 9, 24])
(.cond (.t 24)
(.seq
(.region none [
⟨some 25, .build z1 [], none⟩,
mv 26 9, st 11 4 25, ic 5 0, mv 6 26] [4, 5, 6])
.ret)
.skip))
(.seq
(.region none [
ld 27 11 2, ⟨some 28, .call .own 25 [(.t 27)], none⟩,
⟨some 10, .alloc z1, none⟩,
st 11 10 28] [2, 3, 4, 7, 8, 10])
(.seq
(.region none [
ld 29 2 7, fa 30 3 10, st 2 30 29] [2, 3, 4, 8, 10])
(.seq
(.region none [
fa 32 2 2, ld 33 1 32, ld 34 2 3, fa 35 0 2, ld 36 2 35, p3 37 104 33 34 36, mv 31 37, ex 38 0 31, ex 39 1 31,
⟨some 11, .alloc z8, none⟩, st 2 11 38, mv 12 39] [2, 4, 8, 10, 11, 12])
(.seq
(.seq
(.region none [
mv 40 12, ⟨some 41, .un .not (.t 40), none⟩] [2, 4, 8, 10, 11, 41])
(.cond (.t 41)
(.seq
(.region none [
ld 42 11 10, mv 43 8, st 11 4 42, mv 5 43, ic 6 0] [4, 5, 6])
.ret)
.skip))
(.seq
(.seq
(.region none [
fa 44 5 2, fa 45 0 44, ld 46 3 45, p1 47 106 46, ⟨some 48, .un .not (.t 47), none⟩] [2, 4, 8, 10, 11, 48])
(.cond (.t 48)
(.seq
(.region none [
⟨some 49, .build z1 [], none⟩,
st 11 4 49, ic 5 0, ic 6 18] [4, 5, 6])
.ret)
.skip))
(.seq
(.region none [
fa 51 5 2, ld 52 5 51, ld 53 2 11, mv 54 8, p3 55 107 52 53 54, mv 50 55, ex 56 0 50, ex 57 1 50,
⟨some 13, .alloc z2, none⟩, ⟨some 14, .alloc z8, none⟩,
st 5 13 56, st 2 14 57] [4, 8, 10, 13, 14])
(.seq
(.region none [
ld 58 5 13, fa 59 5 10, st 5 59 58] [4, 8, 10, 14])
(.seq
(.region none [
fa 60 10 10, ln 61 60, mv 62 8, ld 63 2 14, ⟨some 64, .build z5 [(0, 1, (.t 62)), (1, 2, (.t 63))], none⟩,
⟨some 65, .mkrow 3 1 z5 [(0, (.t 64))], none⟩, ap 66 3 61 65, fa 67 10 10, st 1 67 66] [4, 8, 10])
(.seq
(.region none [
ld 68 11 10, mv 69 8, st 11 4 68, mv 5 69, ic 6 0] [4, 5, 6])
.ret)))))))))))),
[.cell 4 (some 11), .tmp 5, .tmp 6]⟩
theorem x74_ok : ck x74 74 := by decide +kernel
/-- peloton/pelotonref06.Begin -/
def x75 : XFunc := ⟨1,
(.seq
(.region none [
⟨some 2, .alloc z4, none⟩] [0, 2])
(.seq
(.region (some [0, 1, 0, 4, 15, 0, 63]) [
mv 5 0, ⟨some 6, .mks 1 [.int .i64 0] (.t 5) (.t 5), none⟩, mv 7 0, ⟨some 8, .mks 1 [.bool false] (.t 7) (.t 7), none⟩,
⟨some 9, .build z4 [(0, 1, (.t 6)), (1, 1, (.t 8))], none⟩,
⟨some 3, .alloc z4, none⟩, st 3 3 9] [0, 2, 3])
(.seq
(.seq
(.region none [
mv 10 0, bc 11 .sub 10 1, mv 4 11] [2, 3, 4])
(.block 0
(.loop [(2, none), (3, none), (4, none), (3, some 3001)]
(.seq
(.seq
(.region none [
mv 12 4, bc 13 .geq 12 0] [2, 3, 4, 13])
(.cond (.t 13)
.skip
(.exit 0)))
(.seq
(.block 1
(.region none [
fa 16 2 3, ln 17 16, mv 18 4, ⟨some 19, .mkrow 1 1 [.int .i64 0] [(0, (.t 18))], none⟩, ap 20 1 17 19, fa 21 2 3, st 1 21 20] [2, 3, 4]))
(.region none [
mv 14 4, bc 15 .sub 14 1, mv 4 15] [2, 3, 4]))))))
(.seq
(.region none [
ld 22 3 3, st 3 2 22] [2])
.ret)))),
[.cell 2 (some 3)]⟩
theorem x75_ok : ck x75 75 := by decide +kernel
/-- peloton/pelotonref06.Twin -/
def x76 : XFunc := ⟨1,
(.seq
(.region none [
bx 1 0, ⟨some 2, .alloc z4, none⟩] [1, 2])
(.seq
(.region (some [0, 0, 2, 7, 0, 0, 32, 127, 0, 0, 512, 2047, 4095, 8191]) [
⟨some 3, .mkrow 1 0 [.int .i64 0] [], none⟩, fa 4 0 1, ln 5 4, ap 6 1 3 5, ⟨some 7, .mkrow 1 0 [.bool false] [], none⟩, fa 8 1 1, ln 9 8, ap 10 1 7 9,
⟨some 11, .mkrow 1 0 [.int .i64 0] [], none⟩, fa 12 2 1, ln 13 12, ap 14 1 11 13,
⟨some 15, .build z4 [(0, 1, (.t 6)), (1, 1, (.t 10)), (2, 1, (.t 14))], none⟩, st 3 2 15] [2])
.ret)),
[.cell 2 (some 3)]⟩
theorem x76_ok : ck x76 76 := by decide +kernel
/-- peloton/ratio.Check -/
def x77 : XFunc := ⟨1,
(.seq
(.region none [
bx 1 0, ic 2 0] [1])
(.seq
(.seq
(.region (some [0, 1, 3, 7, 15, 31, 63, 127, 255, 511, 1023, 2047, 511, 4607, 12799, 32767, 65535, 131071]) [
fa 3 1 1, ln 4 3, bc 5 .lss 4 1, mv 6 5, ⟨some 7, .fadr 0 (.t 1), (some (6, false))⟩, ⟨some 8, .load none (.t 7), (some (6, false))⟩,
⟨some 9, .bin .eql (.t 8) (.c (.int .i64 (-9223372036854775808))), (some (6, false))⟩, por 10 6 9, mv 11 10, ⟨some 12, .fadr 1 (.t 1), (some (11, false))⟩,
⟨some 13, .load none (.t 12), (some (11, false))⟩, ⟨some 14, .conv .u64 (.t 13), (some (11, false))⟩, ⟨some 15, .fadr 0 (.t 1), (some (11, false))⟩,
⟨some 16, .load none (.t 15), (some (11, false))⟩, ⟨some 17, .call .pur 110 [(.t 16)], (some (11, false))⟩,
⟨some 18, .call .pur 109 [(.t 14), (.t 17)], (some (11, false))⟩, ⟨some 19, .bin .gtr (.t 18) (.c (.int .u64 1)), (some (11, false))⟩, por 20 11 19] [20])
(.cond (.t 20)
(.seq
(.region none [
ic 2 8] [2])
.ret)
.skip))
(.seq
(.region none [
ic 2 0] [2])
.ret))),
[.tmp 2]⟩
theorem x77_ok : ck x77 77 := by decide +kernel
/-- peloton/cert.Check -/
def x78 : XFunc := ⟨1,
(.seq
(.region none [
bx 1 0, ic 2 0] [1])
(.seq
(.seq
(.region none [
fa 7 1 1, ln 8 7, le 9 8, bc 10 .gtr 9 200, mv 11 10, ⟨some 12, .fadr 0 (.t 1), (some (11, false))⟩, ⟨some 13, .load none (.t 12), (some (11, false))⟩,
⟨some 14, .bin .lss (.t 13) (.c (.int .i64 0)), (some (11, false))⟩, por 15 11 14, mv 16 15, ⟨some 17, .fadr 0 (.t 1), (some (16, false))⟩,
⟨some 18, .load none (.t 17), (some (16, false))⟩, ⟨some 19, .bin .gtr (.t 18) (.c (.int .i64 1000000)), (some (16, false))⟩, por 20 16 19] [1, 20])
(.cond (.t 20)
(.seq
(.region none [
ic 2 8] [2])
.ret)
.skip))
(.seq
(.region none [
⟨some 21, .mkm, none⟩, mv 3 21, ic 4 (-1)] [1, 3, 4])
(.seq
(.seq
(.region none [
fa 22 1 1, ln 23 22, le 24 23, ic 25 0] [1, 3, 4, 23, 24, 25])
(.block 0
(.loop [(1, none), (3, none), (4, none), (23, none), (24, none), (25, none)]
(.seq
(.region none [
bt 26 .lss 25 24] [1, 3, 4, 23, 24, 25, 26])
(.seq
(.cond (.t 26)
.skip
(.exit 0))
(.seq
(.block 1
(.seq
(.region none [
ia 27 3 23 25, ld 28 3 27, ⟨some 6, .alloc z5, none⟩, st 3 6 28] [1, 3, 4, 6, 23, 24, 25])
(.seq
(.seq
(.region none [
fa 29 1 6, ld 30 2 29, p1 31 111 30, ⟨some 32, .un .not (.t 31), none⟩, mv 33 32, ⟨some 34, .mov (.t 3), (some (33, false))⟩,
⟨some 35, .fadr 1 (.t 6), (some (33, false))⟩, ⟨some 36, .load (some 2) (.t 35), (some (33, false))⟩,
⟨some 37, .lookup (some 2) (.bool false) false (.t 34) (.t 36), (some (33, false))⟩, por 38 33 37, mv 39 38, ⟨some 40, .fadr 0 (.t 6), (some (39, false))⟩,
⟨some 41, .load none (.t 40), (some (39, false))⟩, ⟨some 42, .mov (.t 4), (some (39, false))⟩, ⟨some 43, .bin .leq (.t 41) (.t 42), (some (39, false))⟩,
por 44 39 43, mv 45 44, ⟨some 46, .fadr 0 (.t 6), (some (45, false))⟩, ⟨some 47, .load none (.t 46), (some (45, false))⟩,
⟨some 48, .fadr 0 (.t 1), (some (45, false))⟩, ⟨some 49, .load none (.t 48), (some (45, false))⟩, ⟨some 50, .bin .geq (.t 47) (.t 49), (some (45, false))⟩,
por 51 45 50] [1, 3, 6, 23, 24, 25, 51])
(.cond (.t 51)
(.seq
(.region none [
ic 2 8] [2])
.ret)
.skip))
(.region (some [0, 0, 2, 0, 8, 7, 63]) [
mv 52 3, fa 53 1 6, ld 54 2 53, fa 55 0 6, ln 56 55, ⟨none, .mapu (some 2) (.t 52) (.t 54) (.c (.bool true)), none⟩, mv 4 56] [1, 3, 4, 23, 24, 25]))))
(.region none [
bc 57 .add 25 1, mv 25 57] [1, 3, 4, 23, 24, 25])))))))
(.seq
(.region none [
ic 2 0] [2])
.ret))))),
[.tmp 2]⟩
theorem x78_ok : ck x78 78 := by decide +kernel
/-- peloton/agenda.Check -/
def x79 : XFunc := ⟨1,
(.seq
(.region none [
bx 1 0, ic 2 0] [1])
(.seq
(.seq
(.region none [
fa 8 0 1, ld 9 3 8, p1 10 112 9, bc 11 .neq 10 0, mv 12 11, ⟨some 13, .fadr 4 (.t 1), (some (12, false))⟩, ⟨some 14, .load none (.t 13), (some (12, false))⟩,
⟨some 15, .len (.t 14), (some (12, false))⟩, ⟨some 16, .fadr 0 (.t 1), (some (12, false))⟩, ⟨some 17, .fadr 1 (.t 16), (some (12, false))⟩,
⟨some 18, .load none (.t 17), (some (12, false))⟩, ⟨some 19, .len (.t 18), (some (12, false))⟩, ⟨some 20, .bin .neq (.t 15) (.t 19), (some (12, false))⟩,
por 21 12 20, mv 22 21, ⟨some 23, .fadr 3 (.t 1), (some (22, false))⟩, ⟨some 24, .load none (.t 23), (some (22, false))⟩,
⟨some 25, .len (.t 24), (some (22, false))⟩, ⟨some 26, .fadr 0 (.t 1), (some (22, false))⟩, ⟨some 27, .fadr 1 (.t 26), (some (22, false))⟩,
⟨some 28, .load none (.t 27), (some (22, false))⟩, ⟨some 29, .len (.t 28), (some (22, false))⟩, ⟨some 30, .fadr 0 (.t 1), (some (22, false))⟩,
⟨some 31, .fadr 2 (.t 30), (some (22, false))⟩, ⟨some 32, .load none (.t 31), (some (22, false))⟩, ⟨some 33, .len (.t 32), (some (22, false))⟩,
⟨some 34, .bin .sub (.t 29) (.t 33), (some (22, false))⟩, ⟨some 35, .bin .neq (.t 25) (.t 34), (some (22, false))⟩, por 36 22 35] [1, 36])
(.cond (.t 36)
(.seq
(.region none [
ic 2 8] [2])
.ret)
.skip))
(.seq
(.seq
(.region none [
fa 37 4 1, ln 38 37, le 39 38, ic 40 0] [1, 38, 39, 40])
(.block 0
(.loop [(1, none), (38, none), (39, none), (40, none)]
(.seq
(.region none [
bt 41 .lss 40 39] [1, 38, 39, 40, 41])
(.seq
(.cond (.t 41)
.skip
(.exit 0))
(.seq
(.block 1
(.seq
(.region none [
mv 42 40, ia 43 1 38 40, ln 44 43, mv 3 42, mv 4 44] [1, 3, 4, 38, 39, 40])
(.seq
(.seq
(.region none [
fa 45 0 1, fa 46 1 45, ln 47 46, mv 48 3, ia 49 1 47 48, ln 50 49, ⟨some 51, .un .not (.t 50), none⟩] [1, 3, 4, 38, 39, 40, 51])
(.cond (.t 51)
(.seq
(.seq
(.region none [
mv 52 4, bc 53 .neq 52 (-1)] [1, 38, 39, 40, 53])
(.cond (.t 53)
(.seq
(.region none [
ic 2 8] [2])
.ret)
.skip))
(.exit 1))
.skip))
(.seq
(.region (some [0, 1, 3, 7, 7, 23, 55, 127, 255, 511, 1023, 2047, 1023, 8191, 16383, 32767, 1023, 1023, 132095, 394239, 1023, 1967103, 4064255, 8324095, 16777215, 33554431]) [
mv 54 4, bc 55 .lss 54 0, mv 56 55, ⟨some 57, .mov (.t 4), (some (56, false))⟩, ⟨some 58, .fadr 3 (.t 1), (some (56, false))⟩,
⟨some 59, .load none (.t 58), (some (56, false))⟩, ⟨some 60, .len (.t 59), (some (56, false))⟩, ⟨some 61, .bin .geq (.t 57) (.t 60), (some (56, false))⟩,
por 62 56 61, mv 63 62, ⟨some 64, .fadr 3 (.t 1), (some (63, false))⟩, ⟨some 65, .load none (.t 64), (some (63, false))⟩,
⟨some 66, .mov (.t 4), (some (63, false))⟩, ⟨some 67, .iadr 5 (.t 65) (.t 66), (some (63, false))⟩, ⟨some 68, .fadr 3 (.t 67), (some (63, false))⟩,
⟨some 69, .load (some 2) (.t 68), (some (63, false))⟩, ⟨some 70, .mov (.t 3), (some (63, false))⟩, ⟨some 71, .fadr 0 (.t 1), (some (63, false))⟩,
⟨some 72, .fadr 0 (.t 71), (some (63, false))⟩, ⟨some 73, .load none (.t 72), (some (63, false))⟩, ⟨some 74, .mov (.t 3), (some (63, false))⟩,
⟨some 75, .iadr 1 (.t 73) (.t 74), (some (63, false))⟩, ⟨some 76, .load none (.t 75), (some (63, false))⟩,
⟨some 77, .build z8 [(0, 1, (.t 70)), (1, 1, (.t 76))], (some (63, false))⟩, ⟨some 78, .eqc 2 true (.t 69) (.t 77), (some (63, false))⟩,
por 79 63 78] [1, 38, 39, 40, 79])
(.cond (.t 79)
(.seq
(.region none [
ic 2 8] [2])
.ret)
.skip)))))
(.region none [
bc 80 .add 40 1, mv 40 80] [1, 38, 39, 40])))))))
(.seq
(.region none [
⟨some 81, .mkm, none⟩, mv 5 81] [1, 5])
(.seq
(.seq
(.region none [
fa 82 3 1, ln 83 82, le 84 83, ic 85 0] [1, 5, 83, 84, 85])
(.block 2
(.loop [(1, none), (5, none), (83, none), (84, none), (85, none)]
(.seq
(.region none [
bt 86 .lss 85 84] [1, 5, 83, 84, 85, 86])
(.seq
(.cond (.t 86)
.skip
(.exit 2))
(.seq
(.block 3
(.seq
(.region none [
mv 87 85, ia 88 5 83 85, ld 89 5 88, ⟨some 7, .alloc z3, none⟩, mv 6 87,
st 5 7 89] [1, 5, 6, 7, 83, 84, 85])
(.seq
(.seq
(.region none [
fa 90 0 7, ld 91 2 90, p1 92 77 91, bc 93 .neq 92 0, mv 94 93, ⟨some 95, .fadr 2 (.t 7), (some (94, false))⟩, ⟨some 96, .load none (.t 95), (some (94, false))⟩,
⟨some 97, .bin .lss (.t 96) (.c (.int .i64 0)), (some (94, false))⟩, por 98 94 97, mv 99 98, ⟨some 100, .fadr 2 (.t 7), (some (99, false))⟩,
⟨some 101, .load none (.t 100), (some (99, false))⟩, ⟨some 102, .bin .gtr (.t 101) (.c (.int .i64 1000000)), (some (99, false))⟩, por 103 99 102, mv 104 103,
⟨some 105, .mov (.t 5), (some (104, false))⟩, ⟨some 106, .fadr 2 (.t 7), (some (104, false))⟩, ⟨some 107, .load none (.t 106), (some (104, false))⟩,
⟨some 108, .lookup none (.bool false) false (.t 105) (.t 107), (some (104, false))⟩, por 109 104 108] [1, 5, 6, 7, 83, 84, 85, 109])
(.cond (.t 109)
(.seq
(.region none [
ic 2 8] [2])
.ret)
.skip))
(.seq
(.region none [
mv 110 5, fa 111 2 7, ln 112 111, ⟨none, .mapu none (.t 110) (.t 112) (.c (.bool true)), none⟩] [1, 5, 6, 7, 83, 84, 85])
(.seq
(.region (some [0, 1, 3, 7, 7, 23, 7, 71, 199, 503, 1015, 2047, 4095, 8191]) [
mv 113 6, bc 114 .gtr 113 0, mv 115 114, ⟨some 116, .load (some 5) (.t 7), (some (115, true))⟩, ⟨some 117, .fadr 3 (.t 1), (some (115, true))⟩,
⟨some 118, .load none (.t 117), (some (115, true))⟩, ⟨some 119, .mov (.t 6), (some (115, true))⟩,
⟨some 120, .bin .sub (.t 119) (.c (.int .i64 1)), (some (115, true))⟩, ⟨some 121, .bin .quo (.t 120) (.c (.int .i64 2)), (some (115, true))⟩,
⟨some 122, .iadr 5 (.t 118) (.t 121), (some (115, true))⟩, ⟨some 123, .load (some 5) (.t 122), (some (115, true))⟩,
⟨some 124, .call .pur 113 [(.t 116), (.t 123)], (some (115, true))⟩, ⟨some 125, .bin .lss (.t 124) (.c (.int .i64 0)), (some (115, true))⟩,
pan 126 115 125] [1, 5, 83, 84, 85, 126])
(.cond (.t 126)
(.seq
(.region none [
ic 2 8] [2])
.ret)
.skip))))))
(.region none [
bc 127 .add 85 1, mv 85 127] [1, 5, 83, 84, 85])))))))
(.seq
(.region none [
ic 2 0] [2])
.ret)))))),
[.tmp 2]⟩
theorem x79_ok : ck x79 79 := by decide +kernel
/-- peloton/clock.when -/
def x80 : XFunc := ⟨3,
(.seq
(.region none [
bx 3 0, bx 4 1, bx 5 2, ⟨some 6, .alloc z8, none⟩, ⟨some 7, .mov (.c (.bool false)), none⟩, ic 8 0] [3, 4, 5, 6])
(.seq
(.region (some [0, 0, 2, 7, 0, 0, 32, 127, 0, 511, 1023, 1023, 1023, 8191, 16383, 32767]) [
ld 9 1 3, fa 10 1 4, ln 11 10, p2 12 115 9 11, ld 13 1 3, fa 14 0 4, ln 15 14, p2 16 115 13 15, ld 17 2 5, p3 18 114 12 16 17, ex 19 0 18, ex 20 1 18,
ex 21 2 18, st 2 6 19, mv 7 20, mv 8 21] [6, 7, 8])
.ret)),
[.cell 6 (some 2), .tmp 7, .tmp 8]⟩
theorem x80_ok : ck x80 80 := by decide +kernel
/-- peloton/heater.just$1 -/
def x81 : XFunc := ⟨2,
(.seq
(.region none [
bx 2 0, ⟨some 3, .mov (.c (.bool false)), none⟩] [1, 2])
(.seq
(.region none [
ln 4 1, fa 5 1 2, ld 6 2 5, p2 7 59 4 6, ⟨some 8, .un .not (.t 7), none⟩, mv 3 8] [3])
.ret)),
[.tmp 3]⟩
theorem x81_ok : ck x81 81 := by decide +kernel
/-- slices.ContainsFunc[[]peloton/api.Held,peloton/api.Held] -/
def x82 : XFunc := ⟨2,
(.seq
(.region none [
⟨some 4, .mov (.c (.bool false)), none⟩] [0, 1])
(.seq
(.region none [
mv 5 0, mv 6 1, p2 7 116 5 6, bc 8 .geq 7 0, mv 4 8] [4])
.ret)),
[.tmp 4]⟩
theorem x82_ok : ck x82 82 := by decide +kernel
/-- peloton/pelotonref06.Same -/
def x83 : XFunc := ⟨2,
(.seq
(.region none [
bx 2 0, bx 3 1, ⟨some 4, .mov (.c (.bool false)), none⟩] [2, 3])
(.seq
(.region none [
fa 5 0 2, ln 6 5, fa 7 0 3, ln 8 7, p2 9 84 6 8, mv 10 9, ⟨some 11, .fadr 1 (.t 2), (some (10, true))⟩, ⟨some 12, .load none (.t 11), (some (10, true))⟩,
⟨some 13, .fadr 1 (.t 3), (some (10, true))⟩, ⟨some 14, .load none (.t 13), (some (10, true))⟩, ⟨some 15, .call .pur 117 [(.t 12), (.t 14)], (some (10, true))⟩,
pan 16 10 15, mv 17 16, ⟨some 18, .fadr 2 (.t 2), (some (17, true))⟩, ⟨some 19, .load none (.t 18), (some (17, true))⟩,
⟨some 20, .fadr 2 (.t 3), (some (17, true))⟩, ⟨some 21, .load none (.t 20), (some (17, true))⟩, ⟨some 22, .call .pur 84 [(.t 19), (.t 21)], (some (17, true))⟩,
pan 23 17 22, mv 4 23] [4])
.ret)),
[.tmp 4]⟩
theorem x83_ok : ck x83 83 := by decide +kernel
/-- peloton/pelotonref06.SameInts -/
def x84 : XFunc := ⟨2,
(.seq
(.region none [
⟨some 4, .mov (.c (.bool false)), none⟩] [0, 1])
(.seq
(.seq
(.region none [
mv 6 0, le 7 6, mv 8 1, le 9 8, bt 10 .neq 7 9] [0, 1, 10])
(.cond (.t 10)
(.seq
(.region none [
⟨some 4, .mov (.c (.bool false)), none⟩] [4])
.ret)
.skip))
(.seq
(.seq
(.region none [
ic 5 0] [0, 1, 5])
(.block 0
(.loop [(0, none), (1, none), (5, none)]
(.seq
(.seq
(.region none [
mv 11 5, mv 12 0, le 13 12, bt 14 .lss 11 13] [0, 1, 5, 14])
(.cond (.t 14)
.skip
(.exit 0)))
(.seq
(.block 1
(.seq
(.region (some [0, 0, 3, 7, 0, 0, 48, 112, 255]) [
mv 17 0, mv 18 5, ia 19 1 17 18, ln 20 19, mv 21 1, mv 22 5, ia 23 1 21 22, ln 24 23, bt 25 .neq 20 24] [0, 1, 5, 25])
(.cond (.t 25)
(.seq
(.region none [
⟨some 4, .mov (.c (.bool false)), none⟩] [4])
.ret)
.skip)))
(.region none [
mv 15 5, bc 16 .add 15 1, mv 5 16] [0, 1, 5]))))))
(.seq
(.region none [
⟨some 4, .mov (.c (.bool true)), none⟩] [4])
.ret)))),
[.tmp 4]⟩
theorem x84_ok : ck x84 84 := by decide +kernel
/-- peloton/course.two -/
def x85 : XFunc := ⟨3,
(.seq
(.region none [
bx 3 0, bx 4 1, bx 5 2, ic 6 0] [3, 4, 5])
(.seq
(.seq
(.region (some [0, 1, 0, 7, 0, 31, 63, 127]) [
ld 8 3 3, p1 9 34 8, ld 10 3 4, p1 11 34 10, ld 12 2 5, p1 13 77 12, ⟨some 14, .mm true (.t 9) [(.t 11), (.t 13)], none⟩, mv 7 14] [3, 4, 7])
(.seq
(.region none [
mv 15 7, bc 16 .neq 15 0] [3, 4, 7, 16])
(.cond (.t 16)
(.seq
(.region none [
mv 17 7, mv 6 17] [6])
.ret)
.skip)))
(.seq
(.seq
(.region none [
fa 18 0 3, ln 19 18, fa 20 0 4, ln 21 20, bt 22 .eql 19 21] [22])
(.cond (.t 22)
(.seq
(.region none [
ic 6 2] [6])
.ret)
.skip))
(.seq
(.region none [
ic 6 0] [6])
.ret)))),
[.tmp 6]⟩
theorem x85_ok : ck x85 85 := by decide +kernel
/-- peloton/course.compare -/
def x86 : XFunc := ⟨3,
(.seq
(.region none [
bx 3 0, bx 4 1, bx 5 2, ic 6 0] [3, 4, 5])
(.seq
(.region none [
fa 8 1 3, ln 9 8, fa 10 1 4, ln 11 10, bt 12 .sub 9 11, fa 13 1 5, ln 14 13,
⟨some 15, .build z8 [(0, 1, (.t 12)), (1, 1, (.t 14))], none⟩, fa 16 2 3, ln 17 16, fa 18 2 4, ln 19 18, bt 20 .sub 17 19, fa 21 0 5,
ln 22 21, ⟨some 23, .build z8 [(0, 1, (.t 20)), (1, 1, (.t 22))], none⟩,
⟨some 24, .build [.int .i64 0, .int .i64 0, .int .i64 0, .int .i64 0] [(0, 2, (.t 15)), (2, 2, (.t 23))], none⟩, p1 25 118 24,
⟨some 7, .alloc z9, none⟩, st 2 7 25] [3, 4, 7])
(.seq
(.seq
(.region none [
ld 26 2 7, ⟨some 27, .build z9 [], none⟩, ⟨some 28, .eqc 2 true (.t 26) (.t 27), none⟩] [3, 4, 7, 28])
(.cond (.t 28)
(.seq
(.seq
(.region none [
fa 29 0 7, ln 30 29, bc 31 .lss 30 0] [31])
(.cond (.t 31)
(.seq
(.region none [
ic 6 (-1)] [6])
.ret)
.skip))
(.seq
(.region none [
ic 6 1] [6])
.ret))
.skip))
(.seq
(.region (some [0, 1, 0, 4, 15, 0, 32, 0, 128, 511, 1023, 2047, 4095]) [
fa 32 2 3, ln 33 32, fa 34 2 4, ln 35 34, p2 36 120 33 35, fa 37 0 4, ln 38 37, fa 39 0 3, ln 40 39, p2 41 66 38 40,
⟨some 42, .mkrow 1 2 [.int .i64 0] [(0, (.t 36)), (1, (.t 41))], none⟩, p1 43 119 42, mv 6 43] [6])
.ret)))),
[.tmp 6]⟩
theorem x86_ok : ck x86 86 := by decide +kernel
/-- slices.Index[[]peloton/api.Cert,peloton/api.Cert] -/
def x87 : XFunc := ⟨2,
(.seq
(.region none [
bx 3 1, ic 4 0] [0, 3])
(.seq
(.seq
(.region none [
mv 6 0, le 7 6, ic 8 0] [0, 3, 7, 8])
(.block 0
(.loop [(0, none), (3, none), (7, none), (8, none)]
(.seq
(.region none [
bt 9 .lss 8 7] [0, 3, 7, 8, 9])
(.seq
(.cond (.t 9)
.skip
(.exit 0))
(.seq
(.block 1
(.seq
(.region none [
mv 10 8, mv 5 10] [0, 3, 5, 7, 8])
(.seq
(.region (some [0, 0, 0, 6, 14, 31]) [
ld 11 2 3, mv 12 0, mv 13 5, ia 14 2 12 13, ld 15 2 14, ⟨some 16, .eqc 2 false (.t 11) (.t 15), none⟩] [0, 3, 5, 7, 8, 16])
(.cond (.t 16)
(.seq
(.region none [
mv 17 5, mv 4 17] [4])
.ret)
.skip))))
(.region none [
bc 18 .add 8 1, mv 8 18] [0, 3, 7, 8])))))))
(.seq
(.region none [
ic 4 (-1)] [4])
.ret))),
[.tmp 4]⟩
theorem x87_ok : ck x87 87 := by decide +kernel
/-- peloton/clock.Retire -/
def x88 : XFunc := ⟨2,
(.seq
(.region none [
bx 2 0,
⟨some 4, .alloc z1, none⟩,
ic 5 0] [1, 2, 4])
(.seq
(.seq
(.region none [
ld 10 11 2, p1 11 50 10, mv 6 11] [1, 2, 4, 6])
(.seq
(.region none [
mv 12 6, bc 13 .neq 12 0] [1, 2, 4, 6, 13])
(.cond (.t 13)
(.seq
(.region none [
⟨some 14, .build z1 [], none⟩,
mv 15 6, st 11 4 14, mv 5 15] [4, 5])
.ret)
.skip)))
(.seq
(.region none [
ld 17 11 2, mv 18 1, p2 19 121 17 18, mv 16 19, ex 20 0 16, ex 21 1 16, ex 22 2 16,
⟨some 7, .alloc z1, none⟩,
⟨some 8, .alloc z8, none⟩, st 11 7 20, st 2 8 21, mv 9 22] [4, 7, 9])
(.seq
(.region none [
ld 23 11 7, mv 24 9, st 11 4 23, mv 5 24] [4, 5])
.ret)))),
[.cell 4 (some 11), .tmp 5]⟩
theorem x88_ok : ck x88 88 := by decide +kernel
/-- slices.Equal[[]peloton/api.Point,peloton/api.Point] -/
def x89 : XFunc := ⟨2,
(.seq
(.region none [
⟨some 4, .mov (.c (.bool false)), none⟩] [0, 1])
(.seq
(.seq
(.region none [
mv 6 0, le 7 6, mv 8 1, le 9 8, bt 10 .neq 7 9] [0, 1, 10])
(.cond (.t 10)
(.seq
(.region none [
⟨some 4, .mov (.c (.bool false)), none⟩] [4])
.ret)
.skip))
(.seq
(.seq
(.region none [
mv 11 0, le 12 11, ic 13 0] [0, 1, 12, 13])
(.block 0
(.loop [(0, none), (1, none), (12, none), (13, none)]
(.seq
(.region none [
bt 14 .lss 13 12] [0, 1, 12, 13, 14])
(.seq
(.cond (.t 14)
.skip
(.exit 0))
(.seq
(.block 1
(.seq
(.region none [
mv 15 13, mv 5 15] [0, 1, 5, 12, 13])
(.seq
(.region (some [0, 0, 3, 7, 0, 0, 48, 112, 255]) [
mv 16 0, mv 17 5, ia 18 3 16 17, ld 19 3 18, mv 20 1, mv 21 5, ia 22 3 20 21, ld 23 3 22, ⟨some 24, .eqc 3 true (.t 19) (.t 23), none⟩] [0, 1, 12, 13, 24])
(.cond (.t 24)
(.seq
(.region none [
⟨some 4, .mov (.c (.bool false)), none⟩] [4])
.ret)
.skip))))
(.region none [
bc 25 .add 13 1, mv 13 25] [0, 1, 12, 13])))))))
(.seq
(.region none [
⟨some 4, .mov (.c (.bool true)), none⟩] [4])
.ret)))),
[.tmp 4]⟩
theorem x89_ok : ck x89 89 := by decide +kernel
end Go.Proofs.YtppeldaebnfmdabGreat
