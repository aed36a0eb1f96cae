/- Functions of the seat as the logical machine runs them, and the look at each of them (1). Printed by a program. -/
import Derived.Test.YtppeldaebnfmdaaGreatHVm3
import Derived.Test.YtppeldaebnfmdaaGreatProg
set_option maxRecDepth 100000
namespace Go.Proofs.YtppeldaebnfmdaaGreat
open Go.Vm
abbrev mv (d s : Nat) : XOper := ⟨some d, .mov (.t s), none⟩
abbrev ic (d : Nat) (n : Int) : XOper := ⟨some d, .mov (.c (.int .i64 n)), none⟩
abbrev ld (d a s : Nat) : XOper := ⟨some d, .load (some a) (.t s), none⟩
abbrev ln (d s : Nat) : XOper := ⟨some d, .load none (.t s), none⟩
abbrev fa (d o s : Nat) : XOper := ⟨some d, .fadr o (.t s), none⟩
abbrev st (z p s : Nat) : XOper := ⟨none, .store z (.t p) (.t s), none⟩
abbrev ex (d i s : Nat) : XOper := ⟨some d, .ext i (.t s), none⟩
abbrev bx (d s : Nat) : XOper := ⟨some d, .box (.t s), none⟩
abbrev le (d s : Nat) : XOper := ⟨some d, .len (.t s), none⟩
abbrev ia (d z s i : Nat) : XOper := ⟨some d, .iadr z (.t s) (.t i), none⟩
abbrev bt (d : Nat) (o : BinOp) (a b : Nat) : XOper := ⟨some d, .bin o (.t a) (.t b), none⟩
abbrev bc (d : Nat) (o : BinOp) (a : Nat) (n : Int) : XOper := ⟨some d, .bin o (.t a) (.c (.int .i64 n)), none⟩
abbrev ap (d z a b : Nat) : XOper := ⟨some d, .append z (.t a) (.t b), none⟩
abbrev por (d a b : Nat) : XOper := ⟨some d, .pick (.t a) (.c (.bool true)) (.t b), none⟩
abbrev pan (d a b : Nat) : XOper := ⟨some d, .pick (.t a) (.t b) (.c (.bool false)), none⟩
abbrev p1 (d f a : Nat) : XOper := ⟨some d, .call .pur f [(.t a)], none⟩
abbrev p2 (d f a b : Nat) : XOper := ⟨some d, .call .pur f [(.t a), (.t b)], none⟩
abbrev p3 (d f a b c : Nat) : XOper := ⟨some d, .call .pur f [(.t a), (.t b), (.t c)], none⟩
abbrev p4 (d f a b c e : Nat) : XOper := ⟨some d, .call .pur f [(.t a), (.t b), (.t c), (.t e)], none⟩
abbrev z0 : List PV := [.int .i64 0, .int .i64 0, .sl 3 true [], .int .i64 0, .sl 3 true [], .sl 1 true [], .sl 1 true [], .sl 1 true [], .sl 5 true [], .sl 1 true [], .sl 3 true [], .int .i64 0, .sl 3 true []]
abbrev z1 : List PV := [.int .i64 0, .int .i64 0, .sl 3 true [], .int .i64 0, .sl 3 true [], .sl 1 true [], .sl 1 true [], .sl 1 true [], .sl 5 true [], .sl 1 true [], .sl 3 true []]
abbrev z2 : List PV := [.sl 1 true [], .sl 1 true [], .sl 1 true [], .sl 5 true [], .sl 1 true []]
abbrev z3 : List PV := [.int .i64 0, .int .i64 0, .int .i64 0, .int .i64 0, .int .i64 0]
abbrev z4 : List PV := [.sl 1 true [], .sl 1 true [], .sl 1 true []]
abbrev z5 : List PV := [.int .i64 0, .int .i64 0, .int .i64 0]
abbrev z6 : List PV := [.bool false, .int .u64 0, .int .u64 0]
abbrev z7 : List PV := [.int .i64 0, .sl 3 true []]
abbrev z8 : List PV := [.int .i64 0, .int .i64 0]
abbrev z9 : List PV := [.int .i64 0, .int .u64 0]
abbrev ck (x : XFunc) (n : Nat) : Prop := chkFunc Go.Proofs.Tryz.prog (fun _ => true) x n = true
/-- peloton/pelotonlaw17.HeaterNames -/
def x3 : XFunc := ⟨0,
(.seq
(.region none [
⟨some 0, .mov (.c (.bool false)), none⟩] [])
(.seq
(.region none [
⟨some 34, .call .pur 5 [], none⟩, ⟨some 35, .call .pur 6 [(.c (.int .i64 0))], none⟩, p2 36 4 34 35, mv 33 36, ex 37 0 33, ex 38 1 33,
⟨some 1, .alloc z0, none⟩,
st 13 1 37, mv 2 38] [1, 2])
(.seq
(.seq
(.region none [
mv 39 2, bc 40 .neq 39 0, mv 41 40, ⟨some 42, .fadr 11 (.t 1), (some (41, false))⟩, ⟨some 43, .fadr 1 (.t 42), (some (41, false))⟩,
⟨some 44, .load none (.t 43), (some (41, false))⟩, ⟨some 45, .len (.t 44), (some (41, false))⟩,
⟨some 46, .bin .neq (.t 45) (.c (.int .i64 3)), (some (41, false))⟩, por 47 41 46] [1, 47])
(.cond (.t 47)
(.seq
(.region none [
⟨some 0, .mov (.c (.bool false)), none⟩] [0])
.ret)
.skip))
(.seq
(.seq
(.region none [
ic 3 0] [1, 3])
(.block 0
(.loop [(1, none), (3, none)]
(.seq
(.seq
(.region none [
mv 48 3, bc 49 .lss 48 5] [1, 3, 49])
(.cond (.t 49)
.skip
(.exit 0)))
(.seq
(.block 1
(.seq
(.region none [
ld 52 13 1, ⟨some 53, .call .own 7 [(.t 52)], none⟩,
⟨some 4, .alloc z0, none⟩,
st 13 4 53] [1, 3, 4])
(.seq
(.seq
(.region none [
mv 54 3] [1, 3, 4, 54])
(.block 2
(.seq
(.region none [
bc 56 .eql 54 0, mv 55 56] [1, 3, 4, 54, 55])
(.cond (.t 55)
(.region none [
fa 57 0 4, ld 58 11 57, ⟨some 59, .call .pur 8 [(.t 58), (.c (.int .i64 0))], none⟩, fa 60 0 4, st 11 60 59] [1, 3, 4])
(.seq
(.region none [
bc 62 .eql 54 1, mv 61 62] [1, 3, 4, 54, 61])
(.cond (.t 61)
(.region none [
fa 63 0 4, fa 64 0 63, fa 65 1 64, ⟨none, .store 1 (.t 65) (.c (.int .i64 0)), none⟩] [1, 3, 4])
(.seq
(.region none [
bc 67 .eql 54 2, mv 66 67] [1, 3, 4, 54, 66])
(.cond (.t 66)
(.region none [
fa 68 11 4, fa 69 0 68, ⟨none, .store 1 (.t 69) (.c (.int .i64 0)), none⟩] [1, 3, 4])
(.seq
(.region none [
bc 71 .eql 54 3, mv 70 71] [1, 3, 4, 54, 70])
(.cond (.t 70)
(.region (some [0, 1, 3, 0, 8, 24, 7, 71, 199, 511, 1023, 2047]) [
fa 72 11 4, fa 73 1 72, ln 74 73, fa 75 11 4, fa 76 1 75, ln 77 76, ⟨some 78, .iadr 3 (.t 74) (.c (.int .i64 1)), none⟩, fa 79 1 78,
⟨none, .store 1 (.t 79) (.c (.int .i64 2)), none⟩, ⟨some 80, .iadr 3 (.t 77) (.c (.int .i64 1)), none⟩, fa 81 2 80,
⟨none, .store 1 (.t 81) (.c (.int .i64 0)), none⟩] [1, 3, 4])
(.seq
(.region none [
bc 83 .eql 54 4, mv 82 83] [1, 3, 4, 82])
(.cond (.t 82)
(.region none [
fa 84 11 4, fa 85 1 84, ln 86 85, ⟨some 87, .slc 3 (.t 86) none (some (.c (.int .i64 2))) none, none⟩, fa 88 11 4, fa 89 1 88, st 1 89 87] [1, 3, 4])
.skip))))))))))))
(.seq
(.region none [
ld 91 13 4, p1 92 9 91, mv 90 92, ex 93 0 90, ex 94 1 90, mv 5 93, mv 6 94] [1, 3, 4, 6])
(.seq
(.region none [
ld 96 13 4, p1 97 10 96, mv 95 97, ex 98 0 95, ex 99 1 95, mv 7 98, mv 8 99] [1, 3, 4, 6, 8])
(.seq
(.region none [
ld 101 13 4, ⟨some 102, .build z8 [], none⟩, p2 103 11 101 102, mv 100 103, ex 104 0 100, ex 105 1 100, ex 106 2 100,
⟨some 9, .alloc z0, none⟩,
st 13 9 104, mv 10 105, mv 11 106] [1, 3, 4, 6, 8, 11])
(.seq
(.region none [
ld 107 13 4, p1 108 12 107, bc 109 .neq 108 8, mv 110 109, ⟨some 111, .mov (.t 6), (some (110, false))⟩,
⟨some 112, .bin .neq (.t 111) (.c (.int .i64 8)), (some (110, false))⟩, por 113 110 112, mv 114 113, ⟨some 115, .mov (.t 8), (some (114, false))⟩,
⟨some 116, .bin .neq (.t 115) (.c (.int .i64 8)), (some (114, false))⟩, por 117 114 116, mv 118 117, ⟨some 119, .mov (.t 11), (some (118, false))⟩,
⟨some 120, .bin .neq (.t 119) (.c (.int .i64 8)), (some (118, false))⟩, por 121 118 120] [1, 3, 121])
(.cond (.t 121)
(.seq
(.region none [
⟨some 0, .mov (.c (.bool false)), none⟩] [0])
.ret)
.skip))))))))
(.region none [
mv 50 3, bc 51 .add 50 1, mv 3 51] [1, 3]))))))
(.seq
(.region (some [0, 1, 0, 7, 15, 31, 31, 0, 191, 511]) [
⟨some 123, .mks 3 z5 (.c (.int .i64 65)) (.c (.int .i64 65)), none⟩,
⟨some 124, .build [.sl 3 true []] [(0, 1, (.t 123))], none⟩, ⟨some 125, .call .pur 6 [(.c (.int .i64 0))], none⟩, p2 126 13 124 125, mv 122 126, ex 127 0 122,
ex 128 1 122,
⟨some 12, .alloc z0, none⟩,
st 13 12 127, mv 13 128] [1, 13])
(.seq
(.region none [
⟨some 130, .call .pur 5 [], none⟩, ⟨some 131, .build z8 [(0, 1, (.c (.int .i64 1)))], none⟩, p2 132 13 130 131, mv 129 132,
ex 133 0 129, ex 134 1 129,
⟨some 14, .alloc z0, none⟩,
st 13 14 133, mv 15 134] [1, 13, 15])
(.seq
(.region none [
⟨some 136, .build [.sl 3 true []] [], none⟩, ⟨some 137, .call .pur 6 [(.c (.int .i64 0))], none⟩, p2 138 13 136 137, mv 135 138, ex 139 0 135, ex 140 1 135,
⟨some 16, .alloc z0, none⟩,
st 13 16 139, mv 17 140] [1, 13, 15, 16, 17])
(.seq
(.region none [
ld 142 13 16, p1 143 10 142, mv 141 143, ex 144 0 141, ex 145 1 141, mv 18 144, mv 19 145] [1, 13, 15, 16, 17, 19])
(.seq
(.region (some [0, 0, 3, 7, 15, 15, 15, 0, 159, 447, 1023]) [
ld 147 13 1, ⟨some 148, .call .pur 6 [(.c (.int .i64 (-1)))], none⟩, p2 149 11 147 148, mv 146 149, ex 150 0 146, ex 151 1 146, ex 152 2 146,
⟨some 20, .alloc z0, none⟩,
st 13 20 150, mv 21 151, mv 22 152] [1, 13, 15, 16, 17, 19, 22])
(.seq
(.region none [
ld 154 13 1, ⟨some 155, .build z8 [(0, 1, (.c (.int .i64 4))), (1, 1, (.c (.int .i64 2)))], none⟩, p2 156 11 154 155, mv 153 156,
ex 157 0 153, ex 158 1 153, ex 159 2 153,
⟨some 23, .alloc z0, none⟩,
st 13 23 157, mv 24 158, mv 25 159] [1, 13, 15, 16, 17, 19, 22, 25])
(.seq
(.region none [
ld 160 13 1, ⟨some 161, .call .own 7 [(.t 160)], none⟩,
⟨some 26, .alloc z0, none⟩,
st 13 26 161] [13, 15, 16, 17, 19, 22, 25, 26])
(.seq
(.region none [
fa 162 0 26, fa 163 3 162, fa 164 0 163, ⟨none, .store 1 (.t 164) (.c (.int .i64 1000000)), none⟩] [13, 15, 16, 17, 19, 22, 25, 26])
(.seq
(.region (some [0, 0, 3, 7, 15, 15, 15, 0, 159, 447, 1023]) [
ld 166 13 26, ⟨some 167, .call .pur 6 [(.c (.int .i64 2))], none⟩, p2 168 11 166 167, mv 165 168, ex 169 0 165, ex 170 1 165, ex 171 2 165,
⟨some 27, .alloc z0, none⟩,
st 13 27 169, mv 28 170, mv 29 171] [13, 15, 16, 17, 19, 22, 25, 26, 29])
(.seq
(.region (some [0, 0, 3, 7, 15, 15, 15, 0, 159, 447, 1023]) [
ld 173 13 26, ⟨some 174, .call .pur 6 [(.c (.int .i64 1))], none⟩, p2 175 11 173 174, mv 172 175, ex 176 0 172, ex 177 1 172, ex 178 2 172,
⟨some 30, .alloc z0, none⟩,
st 13 30 176, mv 31 177, mv 32 178] [13, 15, 16, 17, 19, 22, 25, 29, 30, 32])
(.seq
(.region (some [0, 1, 3, 7, 15, 31, 63, 127, 255, 511, 1023, 2047, 4095, 8191, 16383, 32767, 65535, 131071, 262143, 524287, 1048575, 2097151, 4194303, 8388607, 16777215, 33554431, 67108863, 134217727, 268435455, 536870911, 1073741823, 2147483647, 4294967295, 8589934591, 17179869183, 34359738367, 68719476735, 17179869183, 274877906943, 549755813887, 1099511627775, 2199023255551, 4398046511103, 8796093022207, 17592186044415, 35184372088831, 70368744177663, 140737488355327, 281474976710655]) [
⟨some 179, .call .pur 14 [], none⟩, mv 180 179, ⟨some 181, .mov (.t 13), (some (180, true))⟩,
⟨some 182, .bin .eql (.t 181) (.c (.int .i64 4)), (some (180, true))⟩, pan 183 180 182, mv 184 183, ⟨some 185, .mov (.t 15), (some (184, true))⟩,
⟨some 186, .bin .eql (.t 185) (.c (.int .i64 8)), (some (184, true))⟩, pan 187 184 186, mv 188 187, ⟨some 189, .mov (.t 17), (some (188, true))⟩,
⟨some 190, .bin .eql (.t 189) (.c (.int .i64 0)), (some (188, true))⟩, pan 191 188 190, mv 192 191, ⟨some 193, .mov (.t 19), (some (192, true))⟩,
⟨some 194, .bin .eql (.t 193) (.c (.int .i64 42)), (some (192, true))⟩, pan 195 192 194, mv 196 195, ⟨some 197, .mov (.t 22), (some (196, true))⟩,
⟨some 198, .bin .eql (.t 197) (.c (.int .i64 44)), (some (196, true))⟩, pan 199 196 198, mv 200 199, ⟨some 201, .mov (.t 25), (some (200, true))⟩,
⟨some 202, .bin .eql (.t 201) (.c (.int .i64 8)), (some (200, true))⟩, pan 203 200 202, mv 204 203, ⟨some 205, .mov (.t 29), (some (204, true))⟩,
⟨some 206, .bin .eql (.t 205) (.c (.int .i64 18)), (some (204, true))⟩, pan 207 204 206, mv 208 207, ⟨some 209, .mov (.t 32), (some (208, true))⟩,
⟨some 210, .bin .eql (.t 209) (.c (.int .i64 0)), (some (208, true))⟩, pan 211 208 210, mv 212 211, ⟨some 213, .fadr 0 (.t 30), (some (212, true))⟩,
⟨some 214, .fadr 0 (.t 213), (some (212, true))⟩, ⟨some 215, .load (some 2) (.t 214), (some (212, true))⟩,
⟨some 216, .call .pur 6 [(.c (.int .i64 1))], (some (212, true))⟩, ⟨some 217, .eqc 2 false (.t 215) (.t 216), (some (212, true))⟩, pan 218 212 217, mv 219 218,
⟨some 220, .fadr 0 (.t 16), (some (219, true))⟩, ⟨some 221, .fadr 3 (.t 220), (some (219, true))⟩, ⟨some 222, .fadr 1 (.t 221), (some (219, true))⟩,
⟨some 223, .load none (.t 222), (some (219, true))⟩, ⟨some 224, .len (.t 223), (some (219, true))⟩,
⟨some 225, .bin .eql (.t 224) (.c (.int .i64 0)), (some (219, true))⟩, pan 226 219 225, mv 0 226] [0])
.ret))))))))))))))),
[.tmp 0]⟩
theorem x3_ok : ck x3 3 := by decide +kernel
/-- peloton/pelotonref17.Build -/
def x4 : XFunc := ⟨2,
(.seq
(.region none [
bx 2 0, bx 3 1,
⟨some 4, .alloc z0, none⟩,
ic 5 0] [2, 3, 4])
(.seq
(.seq
(.region none [
ld 6 1 2, p1 7 15 6, bc 8 .neq 7 0] [2, 3, 4, 8])
(.cond (.t 8)
(.seq
(.region none [
⟨some 9, .build z0 [], none⟩,
ld 10 1 2, p1 11 15 10, st 13 4 9, mv 5 11] [4, 5])
.ret)
.skip))
(.seq
(.seq
(.region none [
ld 12 2 3, p1 13 16 12, bc 14 .neq 13 0] [2, 3, 4, 14])
(.cond (.t 14)
(.seq
(.region none [
⟨some 15, .build z0 [], none⟩,
st 13 4 15, ic 5 8] [4, 5])
.ret)
.skip))
(.seq
(.region (some [0, 0, 3, 0, 15, 31, 31, 127, 255]) [
ld 16 1 2, ld 17 2 3, p2 18 18 16 17, ld 19 1 2, p2 20 17 18 19, ex 21 0 20, ex 22 1 20, st 13 4 21, mv 5 22] [4, 5])
.ret)))),
[.cell 4 (some 13), .tmp 5]⟩
theorem x4_ok : ck x4 4 := by decide +kernel
/-- peloton/pelotonlaw17.three -/
def x5 : XFunc := ⟨0,
(.seq
(.region none [
⟨some 0, .alloc [.sl 3 true []], none⟩] [0])
(.seq
(.region none [
⟨some 1, .build z5 [(0, 1, (.c (.int .i64 1))), (1, 1, (.c (.int .i64 0))), (2, 1, (.c (.int .i64 2)))], none⟩,
⟨some 2, .build z5 [(0, 1, (.c (.int .i64 2))), (1, 1, (.c (.int .i64 6))), (2, 1, (.c (.int .i64 (-1))))], none⟩,
⟨some 3, .build z5 [(0, 1, (.c (.int .i64 5))), (1, 1, (.c (.int .i64 0))), (2, 1, (.c (.int .i64 0)))], none⟩,
⟨some 4, .mkrow 3 3 z5 [(0, (.t 1)), (1, (.t 2)), (2, (.t 3))], none⟩,
⟨some 5, .build [.sl 3 true []] [(0, 1, (.t 4))], none⟩, st 1 0 5] [0])
.ret)),
[.cell 0 (some 1)]⟩
theorem x5_ok : ck x5 5 := by decide +kernel
/-- peloton/pelotonlaw17.at -/
def x6 : XFunc := ⟨1,
(.seq
(.region none [
⟨some 2, .alloc z8, none⟩] [0, 2])
(.seq
(.region none [
mv 3 0, ⟨some 4, .build z8 [(0, 1, (.t 3)), (1, 1, (.c (.int .i64 1)))], none⟩, st 2 2 4] [2])
.ret)),
[.cell 2 (some 2)]⟩
theorem x6_ok : ck x6 6 := by decide +kernel
/-- peloton/pelotonref17.Twin -/
def x7 : XFunc := ⟨1,
(.seq
(.region none [
bx 1 0,
⟨some 2, .alloc z0, none⟩] [1, 2])
(.seq
(.region (some [0, 1, 3, 0, 8, 31, 63, 127]) [
fa 3 0 1, ld 4 11 3, ⟨some 5, .call .own 19 [(.t 4)], none⟩, fa 6 11 1, ld 7 2 6, ⟨some 8, .call .own 20 [(.t 7)], none⟩,
⟨some 9, .build z0 [(0, 11, (.t 5)), (11, 2, (.t 8))], none⟩,
st 13 2 9] [2])
.ret)),
[.cell 2 (some 13)]⟩
theorem x7_ok : ck x7 7 := by decide +kernel
/-- peloton/pelotonref09.Gone -/
def x8 : XFunc := ⟨2,
(.seq
(.region none [
bx 2 0,
⟨some 4, .alloc z1, none⟩] [1, 2, 4])
(.seq
(.region none [
ld 7 11 2, ⟨some 8, .call .own 19 [(.t 7)], none⟩,
⟨some 5, .alloc z1, none⟩,
st 11 5 8] [1, 2, 4, 5])
(.seq
(.region none [
fa 9 3 2, ld 10 2 9, mv 11 1, p2 12 21 10 11, fa 13 3 5, st 2 13 12] [1, 2, 4, 5])
(.seq
(.seq
(.region none [
ld 14 11 2, mv 15 1, p2 16 22 14 15, mv 6 16] [2, 4, 5, 6])
(.seq
(.region none [
mv 17 6, bc 18 .geq 17 0] [2, 4, 5, 6, 18])
(.cond (.t 18)
(.seq
(.region (some [0, 1, 0, 4, 0, 28, 60, 124, 255, 511, 1023]) [
fa 19 5 2, ld 20 5 19, fa 21 10 2, ln 22 21, mv 23 6, ia 24 3 22 23, fa 25 1 24, ld 26 2 25, p2 27 23 20 26, fa 28 5 5, st 5 28 27] [2, 4, 5, 6])
(.region (some [0, 0, 2, 0, 14, 31, 0, 64, 0, 256, 960, 2047, 4095, 8191]) [
⟨some 29, .mkrow 3 0 z5 [], none⟩, fa 30 10 2, ln 31 30, mv 32 6, ⟨some 33, .slc 3 (.t 31) none (some (.t 32)) none, none⟩,
ap 34 3 29 33, fa 35 10 2, ln 36 35, mv 37 6, bc 38 .add 37 1, ⟨some 39, .slc 3 (.t 36) (some (.t 38)) none none, none⟩, ap 40 3 34 39, fa 41 10 5,
st 1 41 40] [4, 5]))
.skip)))
(.seq
(.region none [
ld 42 11 5, st 11 4 42] [4])
.ret))))),
[.cell 4 (some 11)]⟩
theorem x8_ok : ck x8 8 := by decide +kernel
/-- peloton/heater.Edges -/
def x9 : XFunc := ⟨1,
(.seq
(.region none [
bx 1 0, ⟨some 2, .mov (.c (.sl 2 true [])), none⟩, ic 3 0] [1])
(.seq
(.seq
(.region none [
ld 7 13 1, p1 8 12 7, mv 4 8] [1, 4])
(.seq
(.region none [
mv 9 4, bc 10 .neq 9 0] [1, 4, 10])
(.cond (.t 10)
(.seq
(.region none [
mv 11 4, ⟨some 2, .mov (.c (.sl 2 true [])), none⟩, mv 3 11] [2, 3])
.ret)
.skip)))
(.seq
(.region none [
fa 13 0 1, fa 14 2 13, ld 15 1 14, fa 16 0 1, fa 17 0 16, ld 18 2 17, p2 19 24 15 18, mv 12 19, ex 20 0 12, ex 21 1 12,
⟨some 5, .alloc z7, none⟩, st 2 5 20, mv 6 21] [6])
(.seq
(.region none [
mv 22 6, mv 2 22, ic 3 0] [2, 3])
.ret)))),
[.tmp 2, .tmp 3]⟩
theorem x9_ok : ck x9 9 := by decide +kernel
/-- peloton/heater.Leader -/
def x10 : XFunc := ⟨1,
(.seq
(.region none [
bx 1 0, ic 2 0, ic 3 0] [1])
(.seq
(.seq
(.region none [
ld 5 13 1, p1 6 12 5, mv 4 6] [1, 4])
(.seq
(.region none [
mv 7 4, bc 8 .neq 7 0] [1, 4, 8])
(.cond (.t 8)
(.seq
(.region none [
mv 9 4, ic 2 0, mv 3 9] [2, 3])
.ret)
.skip)))
(.seq
(.seq
(.region none [
fa 10 11 1, fa 11 0 10, ln 12 11, bc 13 .lss 12 0] [1, 13])
(.cond (.t 13)
(.seq
(.region none [
ic 2 0, ic 3 42] [2, 3])
.ret)
.skip))
(.seq
(.region none [
fa 14 11 1, fa 15 1 14, ln 16 15, fa 17 11 1, fa 18 0 17, ln 19 18, ia 20 3 16 19, fa 21 0 20, ln 22 21, mv 2 22, ic 3 0] [2, 3])
.ret)))),
[.tmp 2, .tmp 3]⟩
theorem x10_ok : ck x10 10 := by decide +kernel
/-- peloton/heater.Advance -/
def x11 : XFunc := ⟨2,
(.seq
(.region none [
bx 2 0, bx 3 1,
⟨some 4, .alloc z0, none⟩,
⟨some 5, .mov (.c (.sl 2 true [])), none⟩, ic 6 0] [2, 3, 4])
(.seq
(.seq
(.region none [
ld 19 13 2, p1 20 12 19, mv 7 20] [2, 3, 4, 7])
(.seq
(.region none [
mv 21 7, bc 22 .neq 21 0] [2, 3, 4, 7, 22])
(.cond (.t 22)
(.seq
(.region none [
⟨some 23, .build z0 [], none⟩,
mv 24 7, st 13 4 23, ⟨some 5, .mov (.c (.sl 2 true [])), none⟩, mv 6 24] [4, 5, 6])
.ret)
.skip)))
(.seq
(.seq
(.region none [
ld 25 2 3, p1 26 25 25, bc 27 .neq 26 0] [2, 3, 4, 27])
(.cond (.t 27)
(.seq
(.region none [
⟨some 28, .build z0 [], none⟩,
st 13 4 28, ⟨some 5, .mov (.c (.sl 2 true [])), none⟩, ic 6 8] [4, 5, 6])
.ret)
.skip))
(.seq
(.seq
(.region none [
ld 30 2 3, fa 31 0 2, fa 32 0 31, ld 33 2 32, p2 34 26 30 33, mv 29 34, ex 35 0 29, ex 36 1 29, mv 8 35, mv 9 36] [2, 3, 4, 8])
(.seq
(.region none [
mv 37 8, bc 38 .lss 37 0] [2, 3, 4, 38])
(.cond (.t 38)
(.seq
(.region none [
⟨some 39, .build z0 [], none⟩,
st 13 4 39, ⟨some 5, .mov (.c (.sl 2 true [])), none⟩, ic 6 44] [4, 5, 6])
.ret)
.skip)))
(.seq
(.region none [
⟨some 10, .mov (.c (.sl 2 true [])), none⟩] [2, 3, 4, 10])
(.seq
(.block 0
(.loop [(2, none), (3, none), (4, none), (10, some 2)]
(.block 1
(.seq
(.region none [
fa 41 0 2, ld 42 11 41, ld 43 2 3, p2 44 27 42 43, mv 40 44, ex 45 0 40, ex 46 1 40, ex 47 2 40, ex 48 3 40,
⟨some 11, .alloc z1, none⟩,
⟨some 12, .alloc z3, none⟩, ⟨some 13, .alloc z8, none⟩, st 11 11 45,
st 5 12 46, st 2 13 47, mv 14 48] [2, 3, 4, 10, 11, 13, 14])
(.seq
(.seq
(.region none [
mv 49 14, bc 50 .neq 49 0] [2, 3, 4, 10, 11, 13, 50])
(.cond (.t 50)
(.exit 0)
.skip))
(.seq
(.seq
(.region none [
ld 52 11 11, fa 53 2 11, ld 54 1 53, p2 55 28 52 54, mv 51 55, ex 56 0 51, ex 57 1 51, st 13 2 56, mv 14 57] [2, 3, 4, 10, 13, 14])
(.seq
(.region none [
mv 58 14, bc 59 .neq 58 0] [2, 3, 4, 10, 13, 14, 59])
(.cond (.t 59)
(.seq
(.region none [
⟨some 60, .build z0 [], none⟩,
mv 61 14, st 13 4 60, ⟨some 5, .mov (.c (.sl 2 true [])), none⟩, mv 6 61] [4, 5, 6])
.ret)
.skip)))
(.region none [
mv 62 10, ld 63 2 13, ⟨some 64, .mkrow 2 1 z8 [(0, (.t 63))], none⟩, ap 65 2 62 64, mv 10 65] [2, 3, 4, 10])))))))
(.seq
(.region none [
fa 67 0 2, ld 68 11 67, ld 69 2 3, p2 70 29 68 69, mv 66 70, ex 71 0 66, ex 72 1 66,
⟨some 15, .alloc z1, none⟩,
st 11 15 71, mv 16 72] [3, 4, 10, 15])
(.seq
(.region none [
fa 74 2 15, ld 75 1 74, ld 76 2 3, p2 77 24 75 76, mv 73 77, ex 78 0 73, ex 79 1 73, ⟨some 17, .alloc z7, none⟩, st 2 17 78,
mv 18 79] [4, 10, 15, 17])
(.seq
(.region none [
ld 80 11 15, ld 81 2 17,
⟨some 82, .build z0 [(0, 11, (.t 80)), (11, 2, (.t 81))], none⟩,
mv 83 10, st 13 4 82, mv 5 83, ic 6 0] [4, 5, 6])
.ret))))))))),
[.cell 4 (some 13), .tmp 5, .tmp 6]⟩
theorem x11_ok : ck x11 11 := by decide +kernel
/-- peloton/heater.Check -/
def x12 : XFunc := ⟨1,
(.seq
(.region none [
bx 1 0, ic 2 0] [1])
(.seq
(.seq
(.region none [
fa 5 0 1, ld 6 11 5, p1 7 30 6, bc 8 .neq 7 0] [1, 8])
(.cond (.t 8)
(.seq
(.region none [
ic 2 8] [2])
.ret)
.skip))
(.seq
(.region none [
fa 10 0 1, fa 11 2 10, ld 12 1 11, fa 13 0 1, fa 14 0 13, ld 15 2 14, p2 16 24 12 15, mv 9 16, ex 17 0 9, ex 18 1 9,
⟨some 3, .alloc z7, none⟩, st 2 3 17, mv 4 18] [1, 3, 4])
(.seq
(.seq
(.region none [
fa 19 0 3, ln 20 19, fa 21 11 1, fa 22 0 21, ln 23 22, bt 24 .neq 20 23, mv 25 24, ⟨some 26, .fadr 1 (.t 3), (some (25, false))⟩,
⟨some 27, .load none (.t 26), (some (25, false))⟩, ⟨some 28, .fadr 11 (.t 1), (some (25, false))⟩, ⟨some 29, .fadr 1 (.t 28), (some (25, false))⟩,
⟨some 30, .load none (.t 29), (some (25, false))⟩, ⟨some 31, .call .pur 31 [(.t 27), (.t 30)], (some (25, false))⟩,
⟨some 32, .un .not (.t 31), (some (25, false))⟩, por 33 25 32, mv 34 33, ⟨some 35, .fadr 0 (.t 1), (some (34, false))⟩,
⟨some 36, .load (some 11) (.t 35), (some (34, false))⟩, ⟨some 37, .mov (.t 4), (some (34, false))⟩,
⟨some 38, .call .pur 32 [(.t 36), (.t 37)], (some (34, false))⟩, ⟨some 39, .un .not (.t 38), (some (34, false))⟩, por 40 34 39] [40])
(.cond (.t 40)
(.seq
(.region none [
ic 2 8] [2])
.ret)
.skip))
(.seq
(.region none [
ic 2 0] [2])
.ret))))),
[.tmp 2]⟩
theorem x12_ok : ck x12 12 := by decide +kernel
/-- peloton/heater.Build -/
def x13 : XFunc := ⟨2,
(.seq
(.region none [
bx 2 0, bx 3 1,
⟨some 4, .alloc z0, none⟩,
ic 5 0] [2, 3, 4])
(.seq
(.region none [
ld 9 1 2, ld 10 2 3, p2 11 33 9 10, mv 8 11, ex 12 0 8, ex 13 1 8,
⟨some 6, .alloc z1, none⟩,
st 11 6 12, mv 7 13] [2, 4, 6, 7])
(.seq
(.seq
(.region none [
mv 14 7, bc 15 .neq 14 0] [2, 4, 6, 7, 15])
(.cond (.t 15)
(.seq
(.region none [
⟨some 16, .build z0 [], none⟩,
mv 17 7, st 13 4 16, mv 5 17] [4, 5])
.ret)
.skip))
(.seq
(.region none [
ld 18 11 6, ld 19 1 2, p2 20 28 18 19, ex 21 0 20, ex 22 1 20, st 13 4 21, mv 5 22] [4, 5])
.ret)))),
[.cell 4 (some 13), .tmp 5]⟩
theorem x13_ok : ck x13 13 := by decide +kernel
/-- peloton/pelotonlaw17.alive -/
def x14 : XFunc := ⟨0,
(.seq
(.region none [
⟨some 0, .mov (.c (.bool false)), none⟩] [])
(.seq
(.region none [
⟨some 9, .call .pur 5 [], none⟩, ⟨some 10, .call .pur 6 [(.c (.int .i64 0))], none⟩, p2 11 13 9 10, mv 8 11, ex 12 0 8, ex 13 1 8,
⟨some 1, .alloc z0, none⟩,
st 13 1 12, mv 2 13] [1, 2])
(.seq
(.region (some [0, 0, 3, 7, 15, 15, 15, 0, 159, 447, 1023]) [
ld 15 13 1, ⟨some 16, .call .pur 6 [(.c (.int .i64 2))], none⟩, p2 17 11 15 16, mv 14 17, ex 18 0 14, ex 19 1 14, ex 20 2 14,
⟨some 3, .alloc z0, none⟩,
st 13 3 18, mv 4 19, mv 5 20] [1, 2, 3, 4, 5])
(.seq
(.region none [
ld 22 13 3, p1 23 10 22, mv 21 23, ex 24 0 21, ex 25 1 21, mv 6 24, mv 7 25] [1, 2, 3, 4, 5, 6, 7])
(.seq
(.region none [
mv 26 2, bc 27 .eql 26 0, mv 28 27, ⟨some 29, .mov (.t 5), (some (28, true))⟩, ⟨some 30, .bin .eql (.t 29) (.c (.int .i64 0)), (some (28, true))⟩, pan 31 28 30,
mv 32 31, ⟨some 33, .mov (.t 7), (some (32, true))⟩, ⟨some 34, .bin .eql (.t 33) (.c (.int .i64 0)), (some (32, true))⟩, pan 35 32 34, mv 36 35,
⟨some 37, .mov (.t 6), (some (36, true))⟩, ⟨some 38, .bin .eql (.t 37) (.c (.int .i64 1)), (some (36, true))⟩, pan 39 36 38, mv 40 39,
⟨some 41, .fadr 11 (.t 1), (some (40, true))⟩, ⟨some 42, .load (some 2) (.t 41), (some (40, true))⟩,
⟨some 43, .build z5 [(0, 1, (.c (.int .i64 1))), (1, 1, (.c (.int .i64 (-1)))), (2, 1, (.c (.int .i64 (-1))))], (some (40, true))⟩,
⟨some 44, .build z5 [(0, 1, (.c (.int .i64 2))), (1, 1, (.c (.int .i64 0))), (2, 1, (.c (.int .i64 2)))], (some (40, true))⟩,
⟨some 45, .build z5 [(0, 1, (.c (.int .i64 5))), (1, 1, (.c (.int .i64 (-1)))), (2, 1, (.c (.int .i64 (-1))))], (some (40, true))⟩,
⟨some 46, .mkrow 3 3 z5 [(0, (.t 43)), (1, (.t 44)), (2, (.t 45))], (some (40, true))⟩,
⟨some 47, .build z7 [(0, 1, (.c (.int .i64 1))), (1, 1, (.t 46))], (some (40, true))⟩,
⟨some 48, .call .pur 34 [(.t 42), (.t 47)], (some (40, true))⟩, pan 49 40 48, mv 50 49, ⟨some 51, .fadr 11 (.t 3), (some (50, true))⟩,
⟨some 52, .load (some 2) (.t 51), (some (50, true))⟩,
⟨some 53, .build z5 [(0, 1, (.c (.int .i64 1))), (1, 1, (.c (.int .i64 (-1)))), (2, 1, (.c (.int .i64 1)))], (some (50, true))⟩,
⟨some 54, .build z5 [(0, 1, (.c (.int .i64 2))), (1, 1, (.c (.int .i64 (-1)))), (2, 1, (.c (.int .i64 2)))], (some (50, true))⟩,
⟨some 55, .build z5 [(0, 1, (.c (.int .i64 5))), (1, 1, (.c (.int .i64 (-1)))), (2, 1, (.c (.int .i64 (-1))))], (some (50, true))⟩,
⟨some 56, .mkrow 3 3 z5 [(0, (.t 53)), (1, (.t 54)), (2, (.t 55))], (some (50, true))⟩,
⟨some 57, .build z7 [(0, 1, (.c (.int .i64 0))), (1, 1, (.t 56))], (some (50, true))⟩,
⟨some 58, .call .pur 34 [(.t 52), (.t 57)], (some (50, true))⟩, pan 59 50 58, mv 60 59, ⟨some 61, .mov (.t 4), (some (60, true))⟩,
⟨some 62, .build z8 [(0, 1, (.c (.int .i64 1))), (1, 1, (.c (.int .i64 2)))], (some (60, true))⟩,
⟨some 63, .mkrow 2 1 z8 [(0, (.t 62))], (some (60, true))⟩, ⟨some 64, .call .pur 35 [(.t 61), (.t 63)], (some (60, true))⟩,
pan 65 60 64, mv 0 65] [0])
.ret))))),
[.tmp 0]⟩
theorem x14_ok : ck x14 14 := by decide +kernel
/-- peloton/pelotonref03.Check -/
def x15 : XFunc := ⟨1,
(.seq
(.region none [
bx 1 0, ic 2 0] [1])
(.seq
(.seq
(.region none [
fa 5 0 1, ln 6 5, le 7 6, bc 8 .gtr 7 64] [1, 8])
(.cond (.t 8)
(.seq
(.region none [
ic 2 4] [2])
.ret)
.skip))
(.seq
(.seq
(.region none [
ic 3 0] [1, 3])
(.block 0
(.loop [(1, none), (3, none)]
(.seq
(.seq
(.region none [
mv 9 3, fa 10 0 1, ln 11 10, le 12 11, bt 13 .lss 9 12] [1, 3, 13])
(.cond (.t 13)
.skip
(.exit 0)))
(.seq
(.block 1
(.seq
(.region none [
fa 16 0 1, ln 17 16, mv 18 3, ia 19 3 17 18, ld 20 3 19, p1 21 36 20, bc 22 .neq 21 0] [1, 3, 22])
(.cond (.t 22)
(.seq
(.region none [
ic 2 8] [2])
.ret)
.skip)))
(.region none [
mv 14 3, bc 15 .add 14 1, mv 3 15] [1, 3]))))))
(.seq
(.seq
(.region none [
ic 4 1] [1, 4])
(.block 2
(.loop [(1, none), (4, none)]
(.seq
(.seq
(.region none [
mv 23 4, fa 24 0 1, ln 25 24, le 26 25, bt 27 .lss 23 26] [1, 4, 27])
(.cond (.t 27)
.skip
(.exit 2)))
(.seq
(.block 3
(.seq
(.region (some [0, 1, 0, 4, 15, 31, 63, 0, 128, 0, 896, 1920, 3968, 8191]) [
fa 30 0 1, ln 31 30, mv 32 4, bc 33 .sub 32 1, ia 34 3 31 33, fa 35 0 34, ln 36 35, fa 37 0 1, ln 38 37, mv 39 4, ia 40 3 38 39, fa 41 0 40, ln 42 41,
bt 43 .geq 36 42] [1, 4, 43])
(.cond (.t 43)
(.seq
(.region none [
ic 2 32] [2])
.ret)
.skip)))
(.region none [
mv 28 4, bc 29 .add 28 1, mv 4 29] [1, 4]))))))
(.seq
(.region none [
ic 2 0] [2])
.ret))))),
[.tmp 2]⟩
theorem x15_ok : ck x15 15 := by decide +kernel
/-- peloton/pelotonref01.Check -/
def x16 : XFunc := ⟨1,
(.seq
(.region none [
bx 1 0, ic 2 0] [1])
(.seq
(.seq
(.region (some [0, 1, 3, 7, 15, 31, 63, 127, 255, 511, 1023, 2047, 511, 4607, 12799, 32767, 65535, 131071]) [
fa 3 1 1, ln 4 3, bc 5 .lss 4 1, mv 6 5, ⟨some 7, .fadr 0 (.t 1), (some (6, false))⟩, ⟨some 8, .load none (.t 7), (some (6, false))⟩,
⟨some 9, .bin .eql (.t 8) (.c (.int .i64 (-9223372036854775808))), (some (6, false))⟩, por 10 6 9, mv 11 10, ⟨some 12, .fadr 0 (.t 1), (some (11, false))⟩,
⟨some 13, .load none (.t 12), (some (11, false))⟩, ⟨some 14, .call .pur 38 [(.t 13)], (some (11, false))⟩, ⟨some 15, .fadr 1 (.t 1), (some (11, false))⟩,
⟨some 16, .load none (.t 15), (some (11, false))⟩, ⟨some 17, .conv .u64 (.t 16), (some (11, false))⟩,
⟨some 18, .call .pur 37 [(.t 14), (.t 17)], (some (11, false))⟩, ⟨some 19, .bin .neq (.t 18) (.c (.int .u64 1)), (some (11, false))⟩, por 20 11 19] [20])
(.cond (.t 20)
(.seq
(.region none [
ic 2 8] [2])
.ret)
.skip))
(.seq
(.region none [
ic 2 0] [2])
.ret))),
[.tmp 2]⟩
theorem x16_ok : ck x16 16 := by decide +kernel
/-- peloton/pelotonref17.Settled -/
def x17 : XFunc := ⟨2,
(.seq
(.region none [
bx 2 0, bx 3 1,
⟨some 4, .alloc z0, none⟩,
ic 5 0] [2, 3, 4])
(.seq
(.region none [
ld 9 1 3, fa 10 0 2, ld 11 2 10, p2 12 39 9 11, ⟨some 6, .alloc z7, none⟩, st 2 6 12] [2, 3, 4, 6])
(.seq
(.region (some [0, 0, 0, 4, 15, 31, 63, 63, 0, 383, 1023]) [
ld 14 11 2, ld 15 1 3, ld 16 2 6, p1 17 41 16, p3 18 40 14 15 17, mv 13 18, ex 19 0 13, ex 20 1 13,
⟨some 7, .alloc z1, none⟩,
st 11 7 19, mv 8 20] [4, 6, 7, 8])
(.seq
(.seq
(.region none [
mv 21 8, bc 22 .neq 21 0] [4, 6, 7, 8, 22])
(.cond (.t 22)
(.seq
(.region none [
⟨some 23, .build z0 [], none⟩,
mv 24 8, st 13 4 23, mv 5 24] [4, 5])
.ret)
.skip))
(.seq
(.region none [
ld 25 11 7, ld 26 2 6,
⟨some 27, .build z0 [(0, 11, (.t 25)), (11, 2, (.t 26))], none⟩,
st 13 4 27, ic 5 0] [4, 5])
.ret))))),
[.cell 4 (some 13), .tmp 5]⟩
theorem x17_ok : ck x17 17 := by decide +kernel
/-- peloton/pelotonref09.Begin -/
def x18 : XFunc := ⟨2,
(.seq
(.region none [
bx 2 0, bx 3 1,
⟨some 4, .alloc z1, none⟩] [2, 3, 4])
(.seq
(.region (some [0, 0, 2, 6, 15, 31]) [
ld 5 2 3, ld 6 1 2, ⟨some 7, .call .own 42 [(.t 6)], none⟩, ⟨some 8, .call .pur 43 [(.c (.int .i64 200))], none⟩,
⟨some 9, .build z1 [(0, 2, (.t 5)), (2, 1, (.t 7)), (5, 5, (.t 8))], none⟩,
st 11 4 9] [4])
.ret)),
[.cell 4 (some 11)]⟩
theorem x18_ok : ck x18 18 := by decide +kernel
/-- peloton/pelotonref09.Twin -/
def x19 : XFunc := ⟨1,
(.seq
(.region none [
bx 1 0,
⟨some 2, .alloc z1, none⟩] [1, 2])
(.seq
(.region (some [0, 1, 0, 4, 12, 0, 32, 124, 0, 256, 1020, 0, 0, 4096, 16380, 32767, 65535]) [
fa 3 0 1, ld 4 2 3, fa 5 2 1, ld 6 1 5, ⟨some 7, .call .own 42 [(.t 6)], none⟩, fa 8 3 1, ld 9 2 8, ⟨some 10, .call .own 44 [(.t 9)], none⟩, fa 11 5 1,
ld 12 5 11, ⟨some 13, .call .own 45 [(.t 12)], none⟩, ⟨some 14, .mkrow 3 0 z5 [], none⟩, fa 15 10 1, ln 16 15,
ap 17 3 14 16,
⟨some 18, .build z1 [(0, 2, (.t 4)), (2, 1, (.t 7)), (3, 2, (.t 10)), (5, 5, (.t 13)), (10, 1, (.t 17))], none⟩,
st 11 2 18] [2])
.ret)),
[.cell 2 (some 11)]⟩
theorem x19_ok : ck x19 19 := by decide +kernel
/-- peloton/pelotonref11.Twin -/
def x20 : XFunc := ⟨1,
(.seq
(.region none [
bx 1 0, ⟨some 2, .alloc z7, none⟩] [1, 2])
(.seq
(.region (some [0, 1, 0, 0, 8, 28, 63, 127]) [
fa 3 0 1, ln 4 3, ⟨some 5, .mkrow 3 0 z5 [], none⟩, fa 6 1 1, ln 7 6, ap 8 3 5 7,
⟨some 9, .build z7 [(0, 1, (.t 4)), (1, 1, (.t 8))], none⟩, st 2 2 9] [2])
.ret)),
[.cell 2 (some 2)]⟩
theorem x20_ok : ck x20 20 := by decide +kernel
/-- peloton/pelotonref08.Without -/
def x21 : XFunc := ⟨2,
(.seq
(.region none [
bx 2 0, ⟨some 4, .alloc z7, none⟩] [1, 2, 4])
(.seq
(.region none [
fa 7 0 2, ln 8 7, ⟨some 9, .build z7 [(0, 1, (.t 8))], none⟩, ⟨some 5, .alloc z7, none⟩,
st 2 5 9] [1, 2, 4, 5])
(.seq
(.seq
(.region none [
ic 6 0] [1, 2, 4, 5, 6])
(.block 0
(.loop [(1, none), (2, none), (4, none), (5, none), (6, none), (5, some 2003)]
(.seq
(.seq
(.region none [
mv 10 6, fa 11 1 2, ln 12 11, le 13 12, bt 14 .lss 10 13] [1, 2, 4, 5, 6, 14])
(.cond (.t 14)
.skip
(.exit 0)))
(.seq
(.block 1
(.seq
(.region none [
fa 17 1 2, ln 18 17, mv 19 6, ia 20 3 18 19, fa 21 0 20, ln 22 21, mv 23 1, bt 24 .neq 22 23] [1, 2, 4, 5, 6, 24])
(.cond (.t 24)
(.region (some [0, 1, 0, 4, 0, 28, 60, 124, 255, 511, 1023]) [
fa 25 1 5, ln 26 25, fa 27 1 2, ln 28 27, mv 29 6, ia 30 3 28 29, ld 31 3 30,
⟨some 32, .mkrow 3 1 z5 [(0, (.t 31))], none⟩, ap 33 3 26 32, fa 34 1 5, st 1 34 33] [1, 2, 4, 5, 6])
.skip)))
(.region none [
mv 15 6, bc 16 .add 15 1, mv 6 16] [1, 2, 4, 5, 6]))))))
(.seq
(.region none [
ld 35 2 5, st 2 4 35] [4])
.ret)))),
[.cell 4 (some 2)]⟩
theorem x21_ok : ck x21 21 := by decide +kernel
/-- peloton/pelotonref09.DueAt -/
def x22 : XFunc := ⟨2,
(.seq
(.region none [
bx 2 0, ic 4 0] [1, 2])
(.seq
(.seq
(.region none [
ic 5 0] [1, 2, 5])
(.block 0
(.loop [(1, none), (2, none), (5, none)]
(.seq
(.seq
(.region none [
mv 6 5, fa 7 10 2, ln 8 7, le 9 8, bt 10 .lss 6 9] [1, 2, 5, 10])
(.cond (.t 10)
.skip
(.exit 0)))
(.seq
(.block 1
(.seq
(.region none [
fa 13 10 2, ln 14 13, mv 15 5, ia 16 3 14 15, fa 17 0 16, ln 18 17, mv 19 1, bt 20 .eql 18 19] [1, 2, 5, 20])
(.cond (.t 20)
(.seq
(.region none [
mv 21 5, mv 4 21] [4])
.ret)
.skip)))
(.region none [
mv 11 5, bc 12 .add 11 1, mv 5 12] [1, 2, 5]))))))
(.seq
(.region none [
ic 4 (-1)] [4])
.ret))),
[.tmp 4]⟩
theorem x22_ok : ck x22 22 := by decide +kernel
/-- peloton/pelotonref07.Removed -/
def x23 : XFunc := ⟨2,
(.seq
(.region none [
bx 2 0, bx 3 1, ⟨some 4, .alloc z2, none⟩] [2, 3, 4])
(.seq
(.region none [
ld 8 5 2, ⟨some 9, .call .own 45 [(.t 8)], none⟩, ⟨some 5, .alloc z2, none⟩,
st 5 5 9] [3, 4, 5])
(.seq
(.region (some [0, 1, 0, 4, 15, 31, 0, 64, 192, 448, 63, 2047]) [
fa 10 4 5, ln 11 10, fa 12 0 3, ln 13 12, ia 14 1 11 13, ln 15 14, fa 16 3 5, ln 17 16, le 18 17, bc 19 .sub 18 1, mv 6 15, mv 7 19] [3, 4, 5, 6, 7])
(.seq
(.seq
(.region none [
mv 20 6, mv 21 7, bt 22 .neq 20 21] [3, 4, 5, 6, 7, 22])
(.cond (.t 22)
(.region none [
ld 23 5 5, mv 24 6, mv 25 7, ⟨some 26, .call .fp 46 [(.t 23), (.t 24), (.t 25)], none⟩] [3, 4, 5, 6, 7])
.skip))
(.seq
(.region none [
fa 27 3 5, ln 28 27, mv 29 7, ⟨some 30, .slc 5 (.t 28) none (some (.t 29)) none, none⟩, fa 31 3 5, st 1 31 30] [3, 4, 5, 6, 7])
(.seq
(.region none [
fa 32 4 5, ln 33 32, fa 34 0 3, ln 35 34, ia 36 1 33 35, ⟨none, .store 1 (.t 36) (.c (.int .i64 (-1))), none⟩] [3, 4, 5, 6, 7])
(.seq
(.region none [
fa 37 0 5, ld 38 3 37, ld 39 2 3, p2 40 47 38 39, fa 41 0 5, st 3 41 40] [4, 5, 6, 7])
(.seq
(.seq
(.region none [
mv 42 6, mv 43 7, bt 44 .neq 42 43] [4, 5, 6, 44])
(.cond (.t 44)
(.region (some [0, 0, 0, 6, 15]) [
ld 45 5 5, ld 46 5 5, mv 47 6, ⟨some 48, .call .fp 49 [(.t 46), (.t 47)], none⟩, ⟨some 49, .call .fp 48 [(.t 45), (.t 48)], none⟩] [4, 5])
.skip))
(.seq
(.region none [
ld 50 5 5, st 5 4 50] [4])
.ret))))))))),
[.cell 4 (some 5)]⟩
theorem x23_ok : ck x23 23 := by decide +kernel
/-- peloton/heater.made -/
def x24 : XFunc := ⟨2,
(.seq
(.region none [
bx 2 0, bx 3 1, ⟨some 4, .alloc z7, none⟩, ⟨some 5, .mov (.c (.sl 2 true [])), none⟩] [2, 3, 4])
(.seq
(.region none [
ld 18 1 2, ld 19 2 3, p2 20 50 18 19, mv 17 20, ex 21 0 17, ex 22 1 17, ⟨some 6, .alloc z7, none⟩, st 2 6 21, mv 7 22] [4, 6])
(.seq
(.region none [
fa 23 1 6, ln 24 23, le 25 24, ⟨some 26, .mks 1 [.int .i64 0] (.t 25) (.t 25), none⟩, mv 8 26] [4, 6, 8])
(.seq
(.seq
(.region none [
mv 27 8, le 28 27, ic 29 0] [4, 6, 8, 28, 29])
(.block 0
(.loop [(4, none), (6, none), (8, none), (28, none), (29, none)]
(.seq
(.region none [
bt 30 .lss 29 28] [4, 6, 8, 28, 29, 30])
(.seq
(.cond (.t 30)
.skip
(.exit 0))
(.seq
(.block 1
(.seq
(.region none [
mv 31 29, mv 9 31] [4, 6, 8, 9, 28, 29])
(.region none [
mv 32 8, mv 33 9, ia 34 1 32 33, ⟨none, .store 1 (.t 34) (.c (.int .i64 (-1))), none⟩] [4, 6, 8, 28, 29])))
(.region none [
bc 35 .add 29 1, mv 29 35] [4, 6, 8, 28, 29])))))))
(.seq
(.seq
(.region none [
fa 36 1 6, ln 37 36, le 38 37, ic 39 0] [4, 6, 8, 37, 38, 39])
(.block 2
(.loop [(4, none), (6, none), (8, none), (37, none), (38, none), (39, none)]
(.seq
(.region none [
bt 40 .lss 39 38] [4, 6, 8, 37, 38, 39, 40])
(.seq
(.cond (.t 40)
.skip
(.exit 2))
(.seq
(.block 3
(.seq
(.region none [
mv 41 39, ia 42 3 37 39, ld 43 3 42, ⟨some 11, .alloc z5, none⟩, mv 10 41, st 3 11 43] [4, 6, 8, 10, 11, 37, 38, 39])
(.seq
(.region none [
fa 44 1 11, ln 45 44, fa 46 2 11, ln 47 46, ⟨some 48, .build z8 [(0, 1, (.t 45)), (1, 1, (.t 47))], none⟩,
ic 49 0] [4, 6, 8, 10, 37, 38, 39, 48, 49])
(.block 4
(.loop [(4, none), (6, none), (8, none), (10, none), (37, none), (38, none), (39, none), (48, none), (49, none)]
(.seq
(.region none [
bc 50 .lss 49 2] [4, 6, 8, 10, 37, 38, 39, 48, 49, 50])
(.seq
(.cond (.t 50)
.skip
(.exit 4))
(.seq
(.block 5
(.seq
(.region none [
⟨some 51, .idx 2 1 none (.t 48) (.t 49), none⟩, mv 13 51] [4, 6, 8, 10, 13, 37, 38, 39, 48, 49])
(.seq
(.region none [
mv 52 13, bc 53 .geq 52 0] [4, 6, 8, 10, 13, 37, 38, 39, 48, 49, 53])
(.cond (.t 53)
(.region none [
mv 54 8, mv 55 13, mv 56 10, ia 57 1 54 55, st 1 57 56] [4, 6, 8, 10, 37, 38, 39, 48, 49])
.skip))))
(.region none [
bc 58 .add 49 1, mv 49 58] [4, 6, 8, 10, 37, 38, 39, 48, 49])))))))))
(.region none [
bc 59 .add 39 1, mv 39 59] [4, 6, 8, 37, 38, 39])))))))
(.seq
(.region none [
⟨some 14, .mov (.c (.sl 2 true [])), none⟩] [4, 6, 8, 14])
(.seq
(.seq
(.region none [
fa 60 1 6, ln 61 60, le 62 61, ic 63 0] [4, 6, 8, 14, 61, 62, 63])
(.block 6
(.loop [(4, none), (6, none), (8, none), (14, some 2), (61, none), (62, none), (63, none)]
(.seq
(.region none [
bt 64 .lss 63 62] [4, 6, 8, 14, 61, 62, 63, 64])
(.seq
(.cond (.t 64)
.skip
(.exit 6))
(.seq
(.block 7
(.seq
(.region none [
mv 65 63, ia 66 3 61 63, ld 67 3 66, ⟨some 16, .alloc z5, none⟩, mv 15 65, st 3 16 67] [4, 6, 8, 14, 15, 16, 61, 62, 63])
(.seq
(.region none [
mv 68 8, mv 69 15, ia 70 1 68 69, ln 71 70, bc 72 .geq 71 0] [4, 6, 8, 14, 15, 16, 61, 62, 63, 72])
(.cond (.t 72)
(.region (some [0, 0, 2, 0, 8, 0, 0, 96, 224, 504, 1016, 2040, 4094, 8190, 16383, 32767]) [
mv 73 14, fa 74 0 16, ln 75 74, fa 76 1 6, ln 77 76, mv 78 8, mv 79 15, ia 80 1 78 79, ln 81 80, ia 82 3 77 81, fa 83 0 82, ln 84 83,
⟨some 85, .build z8 [(0, 1, (.t 75)), (1, 1, (.t 84))], none⟩, ⟨some 86, .mkrow 2 1 z8 [(0, (.t 85))], none⟩,
ap 87 2 73 86, mv 14 87] [4, 6, 8, 14, 61, 62, 63])
.skip))))
(.region none [
bc 88 .add 63 1, mv 63 88] [4, 6, 8, 14, 61, 62, 63])))))))
(.seq
(.region none [
ld 89 2 6, mv 90 14, st 2 4 89, mv 5 90] [4, 5])
.ret)))))))),
[.cell 4 (some 2), .tmp 5]⟩
theorem x24_ok : ck x24 24 := by decide +kernel
/-- peloton/ratio.Check -/
def x25 : XFunc := ⟨1,
(.seq
(.region none [
bx 1 0, ic 2 0] [1])
(.seq
(.seq
(.region (some [0, 1, 3, 7, 15, 31, 63, 127, 255, 511, 1023, 2047, 511, 4607, 12799, 32767, 65535, 131071]) [
fa 3 1 1, ln 4 3, bc 5 .lss 4 1, mv 6 5, ⟨some 7, .fadr 0 (.t 1), (some (6, false))⟩, ⟨some 8, .load none (.t 7), (some (6, false))⟩,
⟨some 9, .bin .eql (.t 8) (.c (.int .i64 (-9223372036854775808))), (some (6, false))⟩, por 10 6 9, mv 11 10, ⟨some 12, .fadr 1 (.t 1), (some (11, false))⟩,
⟨some 13, .load none (.t 12), (some (11, false))⟩, ⟨some 14, .conv .u64 (.t 13), (some (11, false))⟩, ⟨some 15, .fadr 0 (.t 1), (some (11, false))⟩,
⟨some 16, .load none (.t 15), (some (11, false))⟩, ⟨some 17, .call .pur 52 [(.t 16)], (some (11, false))⟩,
⟨some 18, .call .pur 51 [(.t 14), (.t 17)], (some (11, false))⟩, ⟨some 19, .bin .gtr (.t 18) (.c (.int .u64 1)), (some (11, false))⟩, por 20 11 19] [20])
(.cond (.t 20)
(.seq
(.region none [
ic 2 8] [2])
.ret)
.skip))
(.seq
(.region none [
ic 2 0] [2])
.ret))),
[.tmp 2]⟩
theorem x25_ok : ck x25 25 := by decide +kernel
/-- peloton/ratio.Cmp -/
def x26 : XFunc := ⟨2,
(.seq
(.region none [
bx 2 0, bx 3 1, ic 4 0, ic 5 0] [2, 3])
(.seq
(.seq
(.region none [
ld 8 2 2, ld 9 2 3, p2 10 53 8 9, mv 6 10] [2, 3, 6])
(.seq
(.region none [
mv 11 6, bc 12 .neq 11 0] [2, 3, 6, 12])
(.cond (.t 12)
(.seq
(.region none [
mv 13 6, ic 4 0, mv 5 13] [4, 5])
.ret)
.skip)))
(.seq
(.seq
(.region none [
fa 14 0 2, ln 15 14, bc 16 .lss 15 0, fa 17 0 3, ln 18 17, bc 19 .lss 18 0, ⟨some 20, .binb true (.t 16) (.t 19), none⟩] [2, 3, 20])
(.cond (.t 20)
(.seq
(.region none [
fa 21 0 2, ln 22 21, fa 23 0 3, ln 24 23, p2 25 54 22 24, mv 4 25, ic 5 0] [4, 5])
.ret)
.skip))
(.seq
(.region (some [0, 1, 0, 4, 15, 0, 32, 0, 128, 511, 1023, 2047]) [
fa 26 0 2, ln 27 26, fa 28 1 3, ln 29 28, p2 30 56 27 29, fa 31 0 3, ln 32 31, fa 33 1 2, ln 34 33, p2 35 56 32 34, p2 36 55 30 35, mv 7 36] [2, 7])
(.seq
(.seq
(.region none [
fa 37 0 2, ln 38 37, bc 39 .lss 38 0] [7, 39])
(.cond (.t 39)
(.region none [
mv 40 7, ⟨some 41, .un .neg (.t 40), none⟩, mv 7 41] [7])
.skip))
(.seq
(.region none [
mv 42 7, mv 4 42, ic 5 0] [4, 5])
.ret)))))),
[.tmp 4, .tmp 5]⟩
theorem x26_ok : ck x26 26 := by decide +kernel
/-- peloton/clock.Fail -/
def x27 : XFunc := ⟨2,
(.seq
(.region none [
bx 2 0, bx 3 1,
⟨some 4, .alloc z1, none⟩,
⟨some 5, .alloc z3, none⟩, ⟨some 6, .alloc z8, none⟩,
ic 7 0] [2, 3, 4, 5, 6])
(.seq
(.region none [
ld 14 11 2, ld 15 2 3, p2 16 57 14 15, mv 13 16, ex 17 0 13, ex 18 1 13, mv 8 17, mv 9 18] [2, 4, 5, 6, 8, 9])
(.seq
(.seq
(.region none [
mv 19 9, bc 20 .eql 19 0, mv 21 20, ⟨some 22, .mov (.t 8), (some (21, true))⟩, ⟨some 23, .un .not (.t 22), (some (21, true))⟩,
pan 24 21 23] [2, 4, 5, 6, 9, 24])
(.cond (.t 24)
(.region none [
ic 9 6] [2, 4, 5, 6, 9])
.skip))
(.seq
(.seq
(.region none [
mv 25 9, bc 26 .neq 25 0] [2, 4, 5, 6, 9, 26])
(.cond (.t 26)
(.seq
(.region none [
⟨some 27, .build z1 [], none⟩,
⟨some 28, .build z3 [], none⟩, ⟨some 29, .build z8 [], none⟩, mv 30 9,
st 11 4 27, st 5 5 28, st 2 6 29, mv 7 30] [4, 5, 6, 7])
.ret)
.skip))
(.seq
(.region none [
fa 31 5 2, fa 32 3 31, ln 33 32, ⟨some 34, .iadr 5 (.t 33) (.c (.int .i64 0)), none⟩, ld 35 5 34,
⟨some 10, .alloc z3, none⟩, st 5 10 35] [2, 4, 5, 6, 10])
(.seq
(.region none [
ld 37 11 2, fa 38 2 10, ln 39 38, p2 40 58 37 39, mv 36 40, ex 41 0 36, ex 42 1 36, ex 43 2 36,
⟨some 11, .alloc z1, none⟩,
⟨some 12, .alloc z8, none⟩, st 11 11 41, st 2 12 42, mv 9 43] [4, 5, 6, 9, 10, 11, 12])
(.seq
(.seq
(.region none [
mv 44 9, bc 45 .neq 44 0] [4, 5, 6, 9, 10, 11, 12, 45])
(.cond (.t 45)
(.seq
(.region none [
⟨some 46, .build z1 [], none⟩,
⟨some 47, .build z3 [], none⟩, ⟨some 48, .build z8 [], none⟩, mv 49 9,
st 11 4 46, st 5 5 47, st 2 6 48, mv 7 49] [4, 5, 6, 7])
.ret)
.skip))
(.seq
(.region none [
fa 50 0 10, ld 51 2 50, fa 52 0 11, st 2 52 51] [4, 5, 6, 10, 11, 12])
(.seq
(.region (some [0, 0, 0, 1, 11, 31, 63]) [
ld 53 11 11, ld 54 5 10, ld 55 2 12, st 11 4 53, st 5 5 54, st 2 6 55, ic 7 0] [4, 5, 6, 7])
.ret))))))))),
[.cell 4 (some 11), .cell 5 (some 5), .cell 6 (some 2), .tmp 7]⟩
theorem x27_ok : ck x27 27 := by decide +kernel
/-- peloton/heater.settled -/
def x28 : XFunc := ⟨2,
(.seq
(.region none [
bx 2 0, bx 3 1,
⟨some 4, .alloc z0, none⟩,
ic 5 0] [2, 3, 4])
(.seq
(.region none [
ld 11 1 3, fa 12 0 2, ld 13 2 12, p2 14 24 11 13, mv 10 14, ex 15 0 10, ex 16 1 10, ⟨some 6, .alloc z7, none⟩, st 2 6 15,
mv 7 16] [2, 3, 4, 6, 7])
(.seq
(.region none [
ld 18 11 2, ld 19 1 3, mv 20 7, p3 21 59 18 19 20, mv 17 21, ex 22 0 17, ex 23 1 17,
⟨some 8, .alloc z1, none⟩,
st 11 8 22, mv 9 23] [4, 6, 8, 9])
(.seq
(.seq
(.region none [
mv 24 9, bc 25 .neq 24 0] [4, 6, 8, 9, 25])
(.cond (.t 25)
(.seq
(.region none [
⟨some 26, .build z0 [], none⟩,
mv 27 9, st 13 4 26, mv 5 27] [4, 5])
.ret)
.skip))
(.seq
(.region none [
ld 28 11 8, ld 29 2 6,
⟨some 30, .build z0 [(0, 11, (.t 28)), (11, 2, (.t 29))], none⟩,
st 13 4 30, ic 5 0] [4, 5])
.ret))))),
[.cell 4 (some 13), .tmp 5]⟩
theorem x28_ok : ck x28 28 := by decide +kernel
/-- peloton/clock.Move -/
def x29 : XFunc := ⟨2,
(.seq
(.region none [
bx 2 0, bx 3 1,
⟨some 4, .alloc z1, none⟩,
ic 5 0] [2, 3, 4])
(.seq
(.region none [
ld 10 11 2, ld 11 2 3, p2 12 57 10 11, mv 9 12, ex 13 0 9, ex 14 1 9, mv 6 13, mv 7 14] [2, 3, 4, 6, 7])
(.seq
(.seq
(.region none [
mv 15 7, bc 16 .eql 15 0, mv 17 16, ⟨some 18, .mov (.t 6), (some (17, true))⟩, pan 19 17 18] [2, 3, 4, 7, 19])
(.cond (.t 19)
(.region none [
ic 7 36] [2, 3, 4, 7])
.skip))
(.seq
(.seq
(.region none [
mv 20 7, bc 21 .neq 20 0] [2, 3, 4, 7, 21])
(.cond (.t 21)
(.seq
(.region none [
⟨some 22, .build z1 [], none⟩,
mv 23 7, st 11 4 22, mv 5 23] [4, 5])
.ret)
.skip))
(.seq
(.region none [
ld 24 11 2, ⟨some 25, .call .own 60 [(.t 24)], none⟩,
⟨some 8, .alloc z1, none⟩,
st 11 8 25] [3, 4, 8])
(.seq
(.region none [
ld 26 2 3, fa 27 0 8, st 2 27 26] [4, 8])
(.seq
(.region none [
ld 28 11 8, st 11 4 28, ic 5 0] [4, 5])
.ret))))))),
[.cell 4 (some 11), .tmp 5]⟩
theorem x29_ok : ck x29 29 := by decide +kernel
/-- peloton/clock.Check -/
def x30 : XFunc := ⟨1,
(.seq
(.region none [
bx 1 0, ic 2 0] [1])
(.seq
(.seq
(.region (some [0, 1, 3, 0, 8, 31, 0, 64, 255, 0, 512, 2047, 4095, 8191, 0]) [
fa 12 0 1, ld 13 2 12, p1 14 25 13, fa 15 2 1, ld 16 1 15, p1 17 61 16, fa 18 3 1, ld 19 2 18, p1 20 62 19, fa 21 5 1, ld 22 5 21, p1 23 63 22,
⟨some 24, .mkrow 1 4 [.int .i64 0] [(0, (.t 14)), (1, (.t 17)), (2, (.t 20)), (3, (.t 23))], none⟩, le 25 24, ic 26 0] [1, 24, 25, 26])
(.block 0
(.loop [(1, none), (24, none), (25, none), (26, none)]
(.seq
(.region none [
bt 27 .lss 26 25] [1, 24, 25, 26, 27])
(.seq
(.cond (.t 27)
.skip
(.exit 0))
(.seq
(.block 1
(.seq
(.region none [
ia 28 1 24 26, ln 29 28, mv 4 29] [1, 4, 24, 25, 26])
(.seq
(.region none [
mv 30 4, bc 31 .neq 30 0] [1, 24, 25, 26, 31])
(.cond (.t 31)
(.seq
(.region none [
ic 2 8] [2])
.ret)
.skip))))
(.region none [
bc 32 .add 26 1, mv 26 32] [1, 24, 25, 26])))))))
(.seq
(.seq
(.region none [
fa 33 5 1, fa 34 4 33, ln 35 34, le 36 35, bc 37 .neq 36 200, mv 38 37, ⟨some 39, .fadr 5 (.t 1), (some (38, false))⟩,
⟨some 40, .fadr 3 (.t 39), (some (38, false))⟩, ⟨some 41, .load none (.t 40), (some (38, false))⟩, ⟨some 42, .len (.t 41), (some (38, false))⟩,
⟨some 43, .fadr 10 (.t 1), (some (38, false))⟩, ⟨some 44, .load none (.t 43), (some (38, false))⟩, ⟨some 45, .len (.t 44), (some (38, false))⟩,
⟨some 46, .bin .neq (.t 42) (.t 45), (some (38, false))⟩, por 47 38 46] [1, 47])
(.cond (.t 47)
(.seq
(.region none [
ic 2 8] [2])
.ret)
.skip))
(.seq
(.region none [
fa 48 10 1, ln 49 48, mv 5 49] [1, 5])
(.seq
(.seq
(.region none [
fa 50 3 1, fa 51 1 50, ln 52 51, le 53 52, ic 54 0] [1, 5, 52, 53, 54])
(.block 2
(.loop [(1, none), (5, none), (52, none), (53, none), (54, none)]
(.seq
(.region none [
bt 55 .lss 54 53] [1, 5, 52, 53, 54, 55])
(.seq
(.cond (.t 55)
.skip
(.exit 2))
(.seq
(.block 3
(.seq
(.region none [
ia 56 3 52 54, ld 57 3 56, ⟨some 7, .alloc z5, none⟩, st 3 7 57] [1, 5, 7, 52, 53, 54])
(.seq
(.region none [
fa 59 2 1, ld 60 1 59, fa 61 1 7, ld 62 2 61, fa 63 0 1, ld 64 2 63, p3 65 64 60 62 64, mv 58 65, ex 66 0 58, ex 67 1 58, ex 68 2 58,
⟨some 8, .alloc z8, none⟩, st 2 8 66, mv 9 67, mv 10 68] [1, 5, 7, 8, 9, 10, 52, 53, 54])
(.seq
(.seq
(.region none [
mv 69 10, bc 70 .neq 69 0] [1, 5, 7, 8, 9, 52, 53, 54, 70])
(.cond (.t 70)
(.seq
(.region none [
ic 2 8] [2])
.ret)
.skip))
(.seq
(.seq
(.region none [
mv 71 9, ⟨some 72, .un .not (.t 71), none⟩] [1, 5, 7, 8, 52, 53, 54, 72])
(.cond (.t 72)
(.exit 3)
.skip))
(.seq
(.seq
(.region (some [0, 1, 3, 7, 15, 31, 63, 127, 15, 271, 1023, 2047]) [
mv 73 5, le 74 73, bc 75 .eql 74 0, mv 76 75, ⟨some 77, .mov (.t 5), (some (76, false))⟩, ⟨some 78, .iadr 3 (.t 77) (.c (.int .i64 0)), (some (76, false))⟩,
⟨some 79, .fadr 0 (.t 78), (some (76, false))⟩, ⟨some 80, .load none (.t 79), (some (76, false))⟩, ⟨some 81, .fadr 0 (.t 7), (some (76, false))⟩,
⟨some 82, .load none (.t 81), (some (76, false))⟩, ⟨some 83, .bin .neq (.t 80) (.t 82), (some (76, false))⟩, por 84 76 83] [1, 5, 7, 8, 52, 53, 54, 84])
(.cond (.t 84)
(.seq
(.region none [
ic 2 8] [2])
.ret)
.skip))
(.seq
(.region none [
mv 85 5, ⟨some 86, .iadr 3 (.t 85) (.c (.int .i64 0)), none⟩, fa 87 1 86, ld 88 2 87, ⟨some 11, .alloc z8, none⟩,
st 2 11 88] [1, 5, 7, 8, 11, 52, 53, 54])
(.seq
(.seq
(.region (some [0, 1, 3, 7, 15, 31, 63, 127, 255, 511, 1023, 2047, 511, 4607, 16383, 32767, 65535, 131071, 262143, 524287, 1048575, 2097151, 524287, 4718591, 13107199, 524287, 34078719, 130547711, 264765439, 536870911, 1073741823, 524287, 524287, 4295491583, 524287, 32212779007, 68719476735, 137438953471]) [
fa 89 0 11, ln 90 89, bc 91 .lss 90 0, mv 92 91, ⟨some 93, .fadr 0 (.t 11), (some (92, false))⟩, ⟨some 94, .load none (.t 93), (some (92, false))⟩,
⟨some 95, .bin .geq (.t 94) (.c (.int .i64 200)), (some (92, false))⟩, por 96 92 95, mv 97 96, ⟨some 98, .fadr 5 (.t 1), (some (97, false))⟩,
⟨some 99, .fadr 4 (.t 98), (some (97, false))⟩, ⟨some 100, .load none (.t 99), (some (97, false))⟩, ⟨some 101, .fadr 0 (.t 11), (some (97, false))⟩,
⟨some 102, .load none (.t 101), (some (97, false))⟩, ⟨some 103, .iadr 1 (.t 100) (.t 102), (some (97, false))⟩,
⟨some 104, .load none (.t 103), (some (97, false))⟩, ⟨some 105, .bin .lss (.t 104) (.c (.int .i64 0)), (some (97, false))⟩, por 106 97 105, mv 107 106,
⟨some 108, .fadr 5 (.t 1), (some (107, false))⟩, ⟨some 109, .fadr 3 (.t 108), (some (107, false))⟩, ⟨some 110, .load none (.t 109), (some (107, false))⟩,
⟨some 111, .fadr 5 (.t 1), (some (107, false))⟩, ⟨some 112, .fadr 4 (.t 111), (some (107, false))⟩, ⟨some 113, .load none (.t 112), (some (107, false))⟩,
⟨some 114, .fadr 0 (.t 11), (some (107, false))⟩, ⟨some 115, .load none (.t 114), (some (107, false))⟩,
⟨some 116, .iadr 1 (.t 113) (.t 115), (some (107, false))⟩, ⟨some 117, .load none (.t 116), (some (107, false))⟩,
⟨some 118, .iadr 5 (.t 110) (.t 117), (some (107, false))⟩, ⟨some 119, .load (some 5) (.t 118), (some (107, false))⟩,
⟨some 120, .load (some 2) (.t 8), (some (107, false))⟩, ⟨some 121, .fadr 0 (.t 7), (some (107, false))⟩, ⟨some 122, .load none (.t 121), (some (107, false))⟩,
⟨some 123, .load (some 2) (.t 11), (some (107, false))⟩,
⟨some 124, .build z3 [(0, 2, (.t 120)), (2, 1, (.t 122)), (3, 2, (.t 123))], (some (107, false))⟩,
⟨some 125, .eqc 5 true (.t 119) (.t 124), (some (107, false))⟩, por 126 107 125] [1, 5, 52, 53, 54, 126])
(.cond (.t 126)
(.seq
(.region none [
ic 2 8] [2])
.ret)
.skip))
(.region none [
mv 127 5, ⟨some 128, .slc 3 (.t 127) (some (.c (.int .i64 1))) none none, none⟩, mv 5 128] [1, 5, 52, 53, 54])))))))))
(.region none [
bc 129 .add 54 1, mv 54 129] [1, 5, 52, 53, 54])))))))
(.seq
(.seq
(.region none [
mv 130 5, le 131 130, bc 132 .gtr 131 0] [132])
(.cond (.t 132)
(.seq
(.region none [
ic 2 8] [2])
.ret)
.skip))
(.seq
(.region none [
ic 2 0] [2])
.ret))))))),
[.tmp 2]⟩
theorem x30_ok : ck x30 30 := by decide +kernel
/-- slices.Equal[[]peloton/api.Node,peloton/api.Node] -/
def x31 : XFunc := ⟨2,
(.seq
(.region none [
⟨some 4, .mov (.c (.bool false)), none⟩] [0, 1])
(.seq
(.seq
(.region none [
mv 6 0, le 7 6, mv 8 1, le 9 8, bt 10 .neq 7 9] [0, 1, 10])
(.cond (.t 10)
(.seq
(.region none [
⟨some 4, .mov (.c (.bool false)), none⟩] [4])
.ret)
.skip))
(.seq
(.seq
(.region none [
mv 11 0, le 12 11, ic 13 0] [0, 1, 12, 13])
(.block 0
(.loop [(0, none), (1, none), (12, none), (13, none)]
(.seq
(.region none [
bt 14 .lss 13 12] [0, 1, 12, 13, 14])
(.seq
(.cond (.t 14)
.skip
(.exit 0))
(.seq
(.block 1
(.seq
(.region none [
mv 15 13, mv 5 15] [0, 1, 5, 12, 13])
(.seq
(.region (some [0, 0, 3, 7, 0, 0, 48, 112, 255]) [
mv 16 0, mv 17 5, ia 18 3 16 17, ld 19 3 18, mv 20 1, mv 21 5, ia 22 3 20 21, ld 23 3 22, ⟨some 24, .eqc 3 true (.t 19) (.t 23), none⟩] [0, 1, 12, 13, 24])
(.cond (.t 24)
(.seq
(.region none [
⟨some 4, .mov (.c (.bool false)), none⟩] [4])
.ret)
.skip))))
(.region none [
bc 25 .add 13 1, mv 13 25] [0, 1, 12, 13])))))))
(.seq
(.region none [
⟨some 4, .mov (.c (.bool true)), none⟩] [4])
.ret)))),
[.tmp 4]⟩
theorem x31_ok : ck x31 31 := by decide +kernel
/-- peloton/heater.just -/
def x32 : XFunc := ⟨2,
(.seq
(.region none [
bx 2 0, bx 3 1, ⟨some 4, .mov (.c (.bool false)), none⟩] [2, 3])
(.seq
(.region none [
⟨some 6, .mkf 65 [] [(.t 3)], none⟩, mv 5 6] [2, 3, 5])
(.seq
(.region none [
ln 7 3, le 8 7, fa 9 3 2, fa 10 1 9, ln 11 10, le 12 11, bt 13 .eql 8 12, mv 14 13, ⟨some 15, .fadr 3 (.t 2), (some (14, true))⟩,
⟨some 16, .fadr 1 (.t 15), (some (14, true))⟩, ⟨some 17, .load none (.t 16), (some (14, true))⟩, ⟨some 18, .mov (.t 5), (some (14, true))⟩,
⟨some 19, .call .pur 67 [(.t 17), (.t 18)], (some (14, true))⟩, ⟨some 20, .un .not (.t 19), (some (14, true))⟩, pan 21 14 20, mv 4 21] [4])
.ret))),
[.tmp 4]⟩
theorem x32_ok : ck x32 32 := by decide +kernel
/-- peloton/clock.New -/
def x33 : XFunc := ⟨2,
(.seq
(.region none [
bx 2 0, bx 3 1,
⟨some 4, .alloc z1, none⟩,
ic 5 0] [2, 3, 4])
(.seq
(.seq
(.region none [
ld 10 1 2, p1 11 61 10, mv 6 11] [2, 3, 4, 6])
(.seq
(.region none [
mv 12 6, bc 13 .neq 12 0] [2, 3, 4, 6, 13])
(.cond (.t 13)
(.seq
(.region none [
⟨some 14, .build z1 [], none⟩,
mv 15 6, st 11 4 14, mv 5 15] [4, 5])
.ret)
.skip)))
(.seq
(.seq
(.region none [
ld 16 2 3, p1 17 25 16, mv 7 17] [2, 3, 4, 7])
(.seq
(.region none [
mv 18 7, bc 19 .neq 18 0] [2, 3, 4, 7, 19])
(.cond (.t 19)
(.seq
(.region none [
⟨some 20, .build z1 [], none⟩,
mv 21 7, st 11 4 20, mv 5 21] [4, 5])
.ret)
.skip)))
(.seq
(.region none [
⟨some 23, .call .pur 68 [(.c (.int .i64 200))], none⟩, mv 22 23, ex 24 0 22, ex 25 1 22,
⟨some 8, .alloc z2, none⟩, st 5 8 24, mv 9 25] [2, 3, 4, 8, 9])
(.seq
(.region (some [0, 0, 2, 6, 14, 0, 63, 0, 127, 511]) [
ld 26 2 3, fa 27 0 2, ln 28 27, p1 29 69 28, ⟨some 30, .build [.sl 3 true []] [(0, 1, (.t 29))], none⟩, ld 31 5 8,
⟨some 32, .build z1 [(0, 2, (.t 26)), (2, 1, (.t 30)), (5, 5, (.t 31))], none⟩,
mv 33 9, st 11 4 32, mv 5 33] [4, 5])
.ret))))),
[.cell 4 (some 11), .tmp 5]⟩
theorem x33_ok : ck x33 33 := by decide +kernel
/-- peloton/pelotonref11.Equal -/
def x34 : XFunc := ⟨2,
(.seq
(.region none [
bx 2 0, bx 3 1, ⟨some 4, .mov (.c (.bool false)), none⟩] [2, 3])
(.seq
(.seq
(.region none [
fa 6 0 2, ln 7 6, fa 8 0 3, ln 9 8, bt 10 .neq 7 9, mv 11 10, ⟨some 12, .fadr 1 (.t 2), (some (11, false))⟩, ⟨some 13, .load none (.t 12), (some (11, false))⟩,
⟨some 14, .len (.t 13), (some (11, false))⟩, ⟨some 15, .fadr 1 (.t 3), (some (11, false))⟩, ⟨some 16, .load none (.t 15), (some (11, false))⟩,
⟨some 17, .len (.t 16), (some (11, false))⟩, ⟨some 18, .bin .neq (.t 14) (.t 17), (some (11, false))⟩, por 19 11 18] [2, 3, 19])
(.cond (.t 19)
(.seq
(.region none [
⟨some 4, .mov (.c (.bool false)), none⟩] [4])
.ret)
.skip))
(.seq
(.seq
(.region none [
ic 5 0] [2, 3, 5])
(.block 0
(.loop [(2, none), (3, none), (5, none)]
(.seq
(.seq
(.region none [
mv 20 5, fa 21 1 2, ln 22 21, le 23 22, bt 24 .lss 20 23] [2, 3, 5, 24])
(.cond (.t 24)
.skip
(.exit 0)))
(.seq
(.block 1
(.seq
(.region (some [0, 1, 0, 7, 15, 0, 32, 0, 224, 480, 1023]) [
fa 27 1 2, ln 28 27, mv 29 5, ia 30 3 28 29, ld 31 3 30, fa 32 1 3, ln 33 32, mv 34 5, ia 35 3 33 34, ld 36 3 35,
⟨some 37, .eqc 3 true (.t 31) (.t 36), none⟩] [2, 3, 5, 37])
(.cond (.t 37)
(.seq
(.region none [
⟨some 4, .mov (.c (.bool false)), none⟩] [4])
.ret)
.skip)))
(.region none [
mv 25 5, bc 26 .add 25 1, mv 5 26] [2, 3, 5]))))))
(.seq
(.region none [
⟨some 4, .mov (.c (.bool true)), none⟩] [4])
.ret)))),
[.tmp 4]⟩
theorem x34_ok : ck x34 34 := by decide +kernel
/-- peloton/pelotonref13.SameCerts -/
def x35 : XFunc := ⟨2,
(.seq
(.region none [
⟨some 4, .mov (.c (.bool false)), none⟩] [0, 1])
(.seq
(.seq
(.region none [
mv 6 0, le 7 6, mv 8 1, le 9 8, bt 10 .neq 7 9] [0, 1, 10])
(.cond (.t 10)
(.seq
(.region none [
⟨some 4, .mov (.c (.bool false)), none⟩] [4])
.ret)
.skip))
(.seq
(.seq
(.region none [
ic 5 0] [0, 1, 5])
(.block 0
(.loop [(0, none), (1, none), (5, none)]
(.seq
(.seq
(.region none [
mv 11 5, mv 12 0, le 13 12, bt 14 .lss 11 13] [0, 1, 5, 14])
(.cond (.t 14)
.skip
(.exit 0)))
(.seq
(.block 1
(.seq
(.region (some [0, 0, 3, 7, 0, 0, 48, 112, 255]) [
mv 17 0, mv 18 5, ia 19 2 17 18, ld 20 2 19, mv 21 1, mv 22 5, ia 23 2 21 22, ld 24 2 23, ⟨some 25, .eqc 2 true (.t 20) (.t 24), none⟩] [0, 1, 5, 25])
(.cond (.t 25)
(.seq
(.region none [
⟨some 4, .mov (.c (.bool false)), none⟩] [4])
.ret)
.skip)))
(.region none [
mv 15 5, bc 16 .add 15 1, mv 5 16] [0, 1, 5]))))))
(.seq
(.region none [
⟨some 4, .mov (.c (.bool true)), none⟩] [4])
.ret)))),
[.tmp 4]⟩
theorem x35_ok : ck x35 35 := by decide +kernel
/-- peloton/pelotonref02.Check -/
def x36 : XFunc := ⟨1,
(.seq
(.region none [
bx 1 0, ic 2 0] [1])
(.seq
(.seq
(.region none [
fa 3 0 1, ln 4 3, bc 5 .lss 4 0, mv 6 5, ⟨some 7, .fadr 0 (.t 1), (some (6, false))⟩, ⟨some 8, .load none (.t 7), (some (6, false))⟩,
⟨some 9, .bin .gtr (.t 8) (.c (.int .i64 65535)), (some (6, false))⟩, por 10 6 9, mv 11 10, ⟨some 12, .fadr 1 (.t 1), (some (11, false))⟩,
⟨some 13, .load none (.t 12), (some (11, false))⟩, ⟨some 14, .bin .lss (.t 13) (.c (.int .i64 (-1048576))), (some (11, false))⟩, por 15 11 14, mv 16 15,
⟨some 17, .fadr 1 (.t 1), (some (16, false))⟩, ⟨some 18, .load none (.t 17), (some (16, false))⟩,
⟨some 19, .bin .gtr (.t 18) (.c (.int .i64 1048576)), (some (16, false))⟩, por 20 16 19, mv 21 20, ⟨some 22, .fadr 2 (.t 1), (some (21, false))⟩,
⟨some 23, .load none (.t 22), (some (21, false))⟩, ⟨some 24, .bin .lss (.t 23) (.c (.int .i64 (-1048576))), (some (21, false))⟩, por 25 21 24, mv 26 25,
⟨some 27, .fadr 2 (.t 1), (some (26, false))⟩, ⟨some 28, .load none (.t 27), (some (26, false))⟩,
⟨some 29, .bin .gtr (.t 28) (.c (.int .i64 1048576)), (some (26, false))⟩, por 30 26 29] [30])
(.cond (.t 30)
(.seq
(.region none [
ic 2 8] [2])
.ret)
.skip))
(.seq
(.region none [
ic 2 0] [2])
.ret))),
[.tmp 2]⟩
theorem x36_ok : ck x36 36 := by decide +kernel
/-- peloton/pelotonref01.common -/
def x37 : XFunc := ⟨2,
(.seq
(.region none [
⟨some 4, .mov (.c (.int .u64 0)), none⟩] [0, 1])
(.seq
(.block 0
(.loop [(0, none), (1, none)]
(.seq
(.seq
(.region none [
mv 5 1, ⟨some 6, .bin .neq (.t 5) (.c (.int .u64 0)), none⟩] [0, 1, 6])
(.cond (.t 6)
.skip
(.exit 0)))
(.block 1
(.region (some [0, 0, 0, 6, 3, 31]) [
mv 7 1, mv 8 0, mv 9 1, bt 10 .rem 8 9, mv 0 7, mv 1 10] [0, 1])))))
(.seq
(.region none [
mv 11 0, mv 4 11] [4])
.ret))),
[.tmp 4]⟩
theorem x37_ok : ck x37 37 := by decide +kernel
/-- peloton/pelotonref01.size -/
def x38 : XFunc := ⟨1,
(.seq
(.region none [
⟨some 2, .mov (.c (.int .u64 0)), none⟩] [0])
(.seq
(.seq
(.region none [
mv 3 0, bc 4 .lss 3 0] [0, 4])
(.cond (.t 4)
(.seq
(.region none [
mv 5 0, bc 6 .add 5 1, ⟨some 7, .un .neg (.t 6), none⟩, ⟨some 8, .conv .u64 (.t 7), none⟩, ⟨some 9, .bin .add (.t 8) (.c (.int .u64 1)), none⟩, mv 2 9] [2])
.ret)
.skip))
(.seq
(.region none [
mv 10 0, ⟨some 11, .conv .u64 (.t 10), none⟩, mv 2 11] [2])
.ret))),
[.tmp 2]⟩
theorem x38_ok : ck x38 38 := by decide +kernel
/-- peloton/pelotonref17.Made -/
def x39 : XFunc := ⟨2,
(.seq
(.region none [
bx 2 0, bx 3 1, ⟨some 4, .alloc z7, none⟩] [2, 3, 4])
(.seq
(.region none [
ld 5 1 2, ld 6 2 3, p2 7 70 5 6, st 2 4 7] [4])
.ret)),
[.cell 4 (some 2)]⟩
theorem x39_ok : ck x39 39 := by decide +kernel
/-- peloton/pelotonref13.Renewed -/
def x40 : XFunc := ⟨3,
(.seq
(.region none [
bx 3 0, bx 4 1,
⟨some 6, .alloc z1, none⟩,
ic 7 0] [2, 3, 4, 6])
(.seq
(.region none [
ld 16 11 3, p1 17 19 16,
⟨some 8, .alloc z1, none⟩,
st 11 8 17] [2, 3, 4, 6, 8])
(.seq
(.seq
(.region none [
ic 9 0] [2, 3, 4, 6, 8, 9])
(.block 0
(.loop [(2, none), (3, none), (4, none), (6, none), (8, none), (9, none)]
(.seq
(.seq
(.region none [
mv 18 9, fa 19 3 3, fa 20 1 19, ln 21 20, le 22 21, bt 23 .lss 18 22] [2, 3, 4, 6, 8, 9, 23])
(.cond (.t 23)
.skip
(.exit 0)))
(.seq
(.block 1
(.seq
(.region none [
mv 26 2, fa 27 3 3, fa 28 1 27, ln 29 28, mv 30 9, ia 31 3 29 30, fa 32 1 31, ld 33 2 32, p2 34 71 26 33,
⟨some 35, .un .not (.t 34), none⟩] [2, 3, 4, 6, 8, 9, 35])
(.cond (.t 35)
(.region (some [0, 0, 2, 6, 0, 30, 62, 126, 255, 511]) [
ld 36 11 8, fa 37 3 3, fa 38 1 37, ln 39 38, mv 40 9, ia 41 3 39 40, fa 42 0 41, ln 43 42, p2 44 8 36 43, st 11 8 44] [2, 3, 4, 6, 8, 9])
.skip)))
(.region none [
mv 24 9, bc 25 .add 24 1, mv 9 25] [2, 3, 4, 6, 8, 9]))))))
(.seq
(.seq
(.region none [
fa 45 2 8, ld 46 1 45, ld 47 1 4, p2 48 72 46 47, ⟨some 49, .un .not (.t 48), none⟩] [2, 4, 6, 8, 49])
(.cond (.t 49)
(.seq
(.region none [
ld 51 11 8, ld 52 1 4, p2 53 73 51 52, mv 50 53, ex 54 0 50, ex 55 1 50,
⟨some 10, .alloc z1, none⟩,
st 11 10 54, mv 11 55] [2, 6, 8, 10, 11])
(.seq
(.seq
(.region none [
mv 56 11, bc 57 .neq 56 0] [2, 6, 8, 10, 11, 57])
(.cond (.t 57)
(.seq
(.region none [
⟨some 58, .build z1 [], none⟩,
mv 59 11, st 11 6 58, mv 7 59] [6, 7])
.ret)
.skip))
(.region none [
ld 60 11 10, st 11 8 60] [2, 6, 8])))
.skip))
(.seq
(.seq
(.region none [
ic 12 0] [2, 6, 8, 12])
(.block 2
(.loop [(2, none), (6, none), (8, none), (12, none)]
(.seq
(.seq
(.region none [
mv 61 12, mv 62 2, le 63 62, bt 64 .lss 61 63] [2, 6, 8, 12, 64])
(.cond (.t 64)
.skip
(.exit 2)))
(.seq
(.block 3
(.seq
(.seq
(.region (some [0, 1, 0, 0, 12, 28, 63]) [
fa 67 3 8, ld 68 2 67, mv 69 2, mv 70 12, ia 71 2 69 70, ld 72 2 71, p2 73 74 68 72] [2, 6, 8, 12, 73])
(.cond (.t 73)
(.exit 3)
.skip))
(.seq
(.region (some [0, 0, 0, 6, 14, 31, 63, 127, 127, 127, 0, 1279, 3583, 8191]) [
ld 75 11 8, mv 76 2, mv 77 12, ia 78 2 76 77, ld 79 2 78, p2 80 75 75 79, mv 74 80, ex 81 0 74, ex 82 1 74, ex 83 2 74,
⟨some 13, .alloc z1, none⟩,
st 11 13 81, mv 14 82, mv 15 83] [2, 6, 8, 12, 13, 15])
(.seq
(.seq
(.region none [
mv 84 15, bc 85 .neq 84 0] [2, 6, 8, 12, 13, 15, 85])
(.cond (.t 85)
(.seq
(.region none [
⟨some 86, .build z1 [], none⟩,
mv 87 15, st 11 6 86, mv 7 87] [6, 7])
.ret)
.skip))
(.region none [
ld 88 11 13, st 11 8 88] [2, 6, 8, 12])))))
(.region none [
mv 65 12, bc 66 .add 65 1, mv 12 66] [2, 6, 8, 12]))))))
(.seq
(.region none [
ld 89 11 8, st 11 6 89, ic 7 0] [6, 7])
.ret)))))),
[.cell 6 (some 11), .tmp 7]⟩
theorem x40_ok : ck x40 40 := by decide +kernel
/-- peloton/pelotonref17.Of -/
def x41 : XFunc := ⟨1,
(.seq
(.region none [
bx 1 0, ⟨some 2, .mov (.c (.sl 2 true [])), none⟩] [1])
(.seq
(.region none [
⟨some 3, .mov (.c (.sl 2 true [])), none⟩] [1, 3])
(.seq
(.seq
(.region none [
ic 4 0] [1, 3, 4])
(.block 0
(.loop [(1, none), (3, some 2), (4, none)]
(.seq
(.seq
(.region none [
mv 6 4, fa 7 1 1, ln 8 7, le 9 8, bt 10 .lss 6 9] [1, 3, 4, 10])
(.cond (.t 10)
.skip
(.exit 0)))
(.seq
(.block 1
(.seq
(.region none [
ic 5 0] [1, 3, 4, 5])
(.block 2
(.loop [(1, none), (3, some 2), (4, none), (5, none)]
(.seq
(.seq
(.region none [
mv 13 5, fa 14 1 1, ln 15 14, le 16 15, bt 17 .lss 13 16] [1, 3, 4, 5, 17])
(.cond (.t 17)
.skip
(.exit 2)))
(.seq
(.block 3
(.seq
(.region none [
fa 20 1 1, ln 21 20, mv 22 5, ia 23 3 21 22, fa 24 1 23, ln 25 24, mv 26 4, bt 27 .eql 25 26, mv 28 27, ⟨some 29, .fadr 1 (.t 1), (some (28, false))⟩,
⟨some 30, .load none (.t 29), (some (28, false))⟩, ⟨some 31, .mov (.t 5), (some (28, false))⟩, ⟨some 32, .iadr 3 (.t 30) (.t 31), (some (28, false))⟩,
⟨some 33, .fadr 2 (.t 32), (some (28, false))⟩, ⟨some 34, .load none (.t 33), (some (28, false))⟩, ⟨some 35, .mov (.t 4), (some (28, false))⟩,
⟨some 36, .bin .eql (.t 34) (.t 35), (some (28, false))⟩, por 37 28 36] [1, 3, 4, 5, 37])
(.cond (.t 37)
(.region (some [0, 0, 2, 0, 14, 30, 62, 0, 128, 0, 896, 1920, 3968, 8190, 16382, 32767, 65535]) [
mv 38 3, fa 39 1 1, ln 40 39, mv 41 4, ia 42 3 40 41, fa 43 0 42, ln 44 43, fa 45 1 1, ln 46 45, mv 47 5, ia 48 3 46 47, fa 49 0 48, ln 50 49,
⟨some 51, .build z8 [(0, 1, (.t 44)), (1, 1, (.t 50))], none⟩, ⟨some 52, .mkrow 2 1 z8 [(0, (.t 51))], none⟩,
ap 53 2 38 52, mv 3 53] [1, 3, 4, 5])
.skip)))
(.region none [
mv 18 5, bc 19 .add 18 1, mv 5 19] [1, 3, 4, 5])))))))
(.region none [
mv 11 4, bc 12 .add 11 1, mv 4 12] [1, 3, 4]))))))
(.seq
(.region none [
mv 54 3, mv 2 54] [2])
.ret)))),
[.tmp 2]⟩
theorem x41_ok : ck x41 41 := by decide +kernel
/-- peloton/pelotonref03.Twin -/
def x42 : XFunc := ⟨1,
(.seq
(.region none [
bx 1 0, ⟨some 2, .alloc [.sl 3 true []], none⟩] [1, 2])
(.seq
(.region none [
⟨some 3, .mkrow 3 0 z5 [], none⟩, fa 4 0 1, ln 5 4, ap 6 3 3 5, ⟨some 7, .build [.sl 3 true []] [(0, 1, (.t 6))], none⟩,
st 1 2 7] [2])
.ret)),
[.cell 2 (some 1)]⟩
theorem x42_ok : ck x42 42 := by decide +kernel
/-- peloton/pelotonref07.Begin -/
def x43 : XFunc := ⟨1,
(.seq
(.region none [
⟨some 2, .alloc z2, none⟩] [0, 2])
(.seq
(.region none [
mv 5 0, p1 6 76 5, ⟨some 7, .build z2 [(0, 3, (.t 6))], none⟩,
⟨some 3, .alloc z2, none⟩, st 5 3 7] [0, 2, 3])
(.seq
(.seq
(.region none [
ic 4 0] [0, 2, 3, 4])
(.block 0
(.loop [(0, none), (2, none), (3, none), (4, none), (3, some 5001)]
(.seq
(.seq
(.region none [
mv 8 4, mv 9 0, bt 10 .lss 8 9] [0, 2, 3, 4, 10])
(.cond (.t 10)
.skip
(.exit 0)))
(.seq
(.block 1
(.region none [
fa 13 4 3, ln 14 13, ⟨some 15, .mkrow 1 1 [.int .i64 0] [(0, (.c (.int .i64 (-1))))], none⟩, ap 16 1 14 15, fa 17 4 3, st 1 17 16] [0, 2, 3, 4]))
(.region none [
mv 11 4, bc 12 .add 11 1, mv 4 12] [0, 2, 3, 4]))))))
(.seq
(.region none [
ld 18 5 3, st 5 2 18] [2])
.ret)))),
[.cell 2 (some 5)]⟩
theorem x43_ok : ck x43 43 := by decide +kernel
/-- peloton/pelotonref08.Twin -/
def x44 : XFunc := ⟨1,
(.seq
(.region none [
bx 1 0, ⟨some 2, .alloc z7, none⟩] [1, 2])
(.seq
(.region (some [0, 1, 0, 0, 8, 28, 63, 127]) [
fa 3 0 1, ln 4 3, ⟨some 5, .mkrow 3 0 z5 [], none⟩, fa 6 1 1, ln 7 6, ap 8 3 5 7,
⟨some 9, .build z7 [(0, 1, (.t 4)), (1, 1, (.t 8))], none⟩, st 2 2 9] [2])
.ret)),
[.cell 2 (some 2)]⟩
theorem x44_ok : ck x44 44 := by decide +kernel
/-- peloton/pelotonref07.Twin -/
def x45 : XFunc := ⟨1,
(.seq
(.region none [
bx 1 0, ⟨some 2, .alloc z2, none⟩] [1, 2])
(.seq
(.region (some [0, 1, 3, 0, 0, 16, 63, 0, 0, 256, 1023, 2047, 4095]) [
fa 3 0 1, ld 4 3 3, ⟨some 5, .call .own 77 [(.t 4)], none⟩, ⟨some 6, .mkrow 5 0 z3 [], none⟩,
fa 7 3 1, ln 8 7, ap 9 5 6 8, ⟨some 10, .mkrow 1 0 [.int .i64 0] [], none⟩, fa 11 4 1, ln 12 11, ap 13 1 10 12,
⟨some 14, .build z2 [(0, 3, (.t 5)), (3, 1, (.t 9)), (4, 1, (.t 13))], none⟩,
st 5 2 14] [2])
.ret)),
[.cell 2 (some 5)]⟩
theorem x45_ok : ck x45 45 := by decide +kernel
/-- peloton/pelotonref07.swap -/
def x46 : XFunc := ⟨3,
(.seq
(.region none [
bx 3 0] [1, 2, 3])
(.seq
(.region (some [0, 1, 0, 0, 8, 0, 0, 64, 0, 448, 960, 0, 2048, 0, 14336, 30720, 65479, 131015, 262143, 524287]) [
fa 6 3 3, ln 7 6, mv 8 1, fa 9 3 3, ln 10 9, mv 11 2, fa 12 3 3, ln 13 12, mv 14 2, ia 15 5 13 14, ld 16 5 15, fa 17 3 3, ln 18 17, mv 19 1, ia 20 5 18 19,
ld 21 5 20, ia 22 5 7 8, st 5 22 16, ia 23 5 10 11, st 5 23 21] [1, 2, 3])
(.region (some [0, 1, 0, 4, 0, 28, 60, 124, 252, 0, 512, 0, 2048, 0, 14336, 30720, 63488, 129024, 0, 0, 522751, 1571327, 4194303, 8388607]) [
fa 24 4 3, ln 25 24, fa 26 3 3, ln 27 26, mv 28 1, ia 29 5 27 28, fa 30 3 29, fa 31 0 30, ln 32 31, fa 33 4 3, ln 34 33, fa 35 3 3, ln 36 35, mv 37 2,
ia 38 5 36 37, fa 39 3 38, fa 40 0 39, ln 41 40, mv 42 1, mv 43 2, ia 44 1 25 32, st 1 44 42, ia 45 1 34 41, st 1 45 43] []))),
[]⟩
theorem x46_ok : ck x46 46 := by decide +kernel
/-- peloton/pelotonref06.Given -/
def x47 : XFunc := ⟨2,
(.seq
(.region none [
bx 2 0, bx 3 1, ⟨some 4, .alloc z4, none⟩] [2, 3, 4])
(.seq
(.region none [
ld 6 3 2, ⟨some 7, .call .own 77 [(.t 6)], none⟩, ⟨some 5, .alloc z4, none⟩, st 3 5 7] [3, 4, 5])
(.seq
(.region none [
fa 8 1 5, ln 9 8, fa 10 0 3, ln 11 10, ia 12 1 9 11, ⟨none, .store 1 (.t 12) (.c (.bool false)), none⟩] [3, 4, 5])
(.seq
(.region none [
fa 13 2 5, ln 14 13, fa 15 0 3, ln 16 15, ⟨some 17, .mkrow 1 1 [.int .i64 0] [(0, (.t 16))], none⟩, ap 18 1 14 17, fa 19 2 5, st 1 19 18] [4, 5])
(.seq
(.region none [
ld 20 3 5, st 3 4 20] [4])
.ret))))),
[.cell 4 (some 3)]⟩
theorem x47_ok : ck x47 47 := by decide +kernel
/-- peloton/pelotonref07.down -/
def x48 : XFunc := ⟨2,
(.seq
(.region none [
bx 2 0] [1, 2])
(.block 0
(.loop [(1, none), (2, none)]
(.block 1
(.seq
(.region none [
mv 5 1, ⟨some 6, .bin .mul (.c (.int .i64 2)) (.t 5), none⟩, bc 7 .add 6 1, mv 4 7] [1, 2, 4])
(.seq
(.seq
(.region none [
mv 8 4, fa 9 3 2, ln 10 9, le 11 10, bt 12 .geq 8 11] [1, 2, 4, 12])
(.cond (.t 12)
.ret
.skip))
(.seq
(.seq
(.region (some [0, 1, 0, 4, 12, 31, 63, 127, 255, 127, 639, 2047, 4095, 127, 8319, 127, 57471, 123007, 262143, 524287]) [
mv 13 4, bc 14 .add 13 1, fa 15 3 2, ln 16 15, le 17 16, bt 18 .lss 14 17, mv 19 18, ⟨some 20, .fadr 3 (.t 2), (some (19, true))⟩,
⟨some 21, .load none (.t 20), (some (19, true))⟩, ⟨some 22, .mov (.t 4), (some (19, true))⟩, ⟨some 23, .bin .add (.t 22) (.c (.int .i64 1)), (some (19, true))⟩,
⟨some 24, .iadr 5 (.t 21) (.t 23), (some (19, true))⟩, ⟨some 25, .load (some 5) (.t 24), (some (19, true))⟩, ⟨some 26, .fadr 3 (.t 2), (some (19, true))⟩,
⟨some 27, .load none (.t 26), (some (19, true))⟩, ⟨some 28, .mov (.t 4), (some (19, true))⟩, ⟨some 29, .iadr 5 (.t 27) (.t 28), (some (19, true))⟩,
⟨some 30, .load (some 5) (.t 29), (some (19, true))⟩, ⟨some 31, .call .pur 78 [(.t 25), (.t 30)], (some (19, true))⟩, pan 32 19 31] [1, 2, 4, 32])
(.cond (.t 32)
(.region none [
mv 33 4, bc 34 .add 33 1, mv 4 34] [1, 2, 4])
.skip))
(.seq
(.seq
(.region (some [0, 1, 0, 7, 15, 0, 32, 0, 224, 480, 1023, 2047]) [
fa 35 3 2, ln 36 35, mv 37 4, ia 38 5 36 37, ld 39 5 38, fa 40 3 2, ln 41 40, mv 42 1, ia 43 5 41 42, ld 44 5 43, p2 45 78 39 44,
⟨some 46, .un .not (.t 45), none⟩] [1, 2, 4, 46])
(.cond (.t 46)
.ret
.skip))
(.seq
(.region none [
ld 47 5 2, mv 48 1, mv 49 4, ⟨some 50, .call .fp 46 [(.t 47), (.t 48), (.t 49)], none⟩] [2, 4])
(.region none [
mv 51 4, mv 1 51] [1, 2])))))))))),
[]⟩
theorem x48_ok : ck x48 48 := by decide +kernel
/-- peloton/pelotonref07.up -/
def x49 : XFunc := ⟨2,
(.seq
(.region none [
bx 2 0, ic 4 0] [1, 2])
(.seq
(.block 0
(.loop [(1, none), (2, none)]
(.seq
(.seq
(.region (some [0, 1, 3, 7, 15, 7, 63, 127, 7, 263, 7, 1031, 3079, 7943, 16135, 32767, 65535]) [
mv 5 1, bc 6 .gtr 5 0, mv 7 6, ⟨some 8, .fadr 3 (.t 2), (some (7, true))⟩, ⟨some 9, .load none (.t 8), (some (7, true))⟩,
⟨some 10, .mov (.t 1), (some (7, true))⟩, ⟨some 11, .iadr 5 (.t 9) (.t 10), (some (7, true))⟩, ⟨some 12, .load (some 5) (.t 11), (some (7, true))⟩,
⟨some 13, .fadr 3 (.t 2), (some (7, true))⟩, ⟨some 14, .load none (.t 13), (some (7, true))⟩, ⟨some 15, .mov (.t 1), (some (7, true))⟩,
⟨some 16, .bin .sub (.t 15) (.c (.int .i64 1)), (some (7, true))⟩, ⟨some 17, .bin .quo (.t 16) (.c (.int .i64 2)), (some (7, true))⟩,
⟨some 18, .iadr 5 (.t 14) (.t 17), (some (7, true))⟩, ⟨some 19, .load (some 5) (.t 18), (some (7, true))⟩,
⟨some 20, .call .pur 78 [(.t 12), (.t 19)], (some (7, true))⟩, pan 21 7 20] [1, 2, 21])
(.cond (.t 21)
.skip
(.exit 0)))
(.block 1
(.seq
(.region none [
ld 22 5 2, mv 23 1, mv 24 1, bc 25 .sub 24 1, bc 26 .quo 25 2, ⟨some 27, .call .fp 46 [(.t 22), (.t 23), (.t 26)], none⟩] [1, 2])
(.region none [
mv 28 1, bc 29 .sub 28 1, bc 30 .quo 29 2, mv 1 30] [1, 2]))))))
(.seq
(.region none [
mv 31 1, mv 4 31] [4])
.ret))),
[.tmp 4]⟩
theorem x49_ok : ck x49 49 := by decide +kernel
/-- peloton/cartes.Of -/
def x50 : XFunc := ⟨2,
(.seq
(.region none [
bx 2 0, bx 3 1, ⟨some 4, .alloc z7, none⟩, ic 5 0] [2, 3, 4])
(.seq
(.seq
(.region none [
ld 15 1 2, ld 16 2 3, p2 17 79 15 16, mv 6 17] [2, 3, 4, 6])
(.seq
(.region none [
mv 18 6, bc 19 .neq 18 0] [2, 3, 4, 6, 19])
(.cond (.t 19)
(.seq
(.region none [
⟨some 20, .build z7 [], none⟩, mv 21 6, st 2 4 20, mv 5 21] [4, 5])
.ret)
.skip)))
(.seq
(.region none [
⟨some 22, .build z7 [(0, 1, (.c (.int .i64 (-1))))], none⟩, ⟨some 7, .alloc z7, none⟩,
st 2 7 22] [2, 3, 4, 7])
(.seq
(.region none [
⟨some 8, .mov (.c (.sl 1 true [])), none⟩] [2, 3, 4, 7, 8])
(.seq
(.seq
(.region none [
fa 23 0 2, ln 24 23, le 25 24, ic 26 0] [2, 3, 4, 7, 8, 24, 25, 26])
(.block 0
(.loop [(2, none), (3, none), (4, none), (7, none), (8, some 1), (24, none), (25, none), (26, none), (7, some 2003), (1000008, none)]
(.seq
(.region none [
bt 27 .lss 26 25] [2, 3, 4, 7, 8, 24, 25, 26, 27])
(.seq
(.cond (.t 27)
.skip
(.exit 0))
(.seq
(.block 1
(.seq
(.region none [
mv 28 26, ia 29 3 24 26, ld 30 3 29, ⟨some 10, .alloc z5, none⟩, mv 9 28, st 3 10 30] [2, 3, 4, 7, 8, 9, 10, 24, 25, 26])
(.seq
(.region none [
fa 31 0 10, ln 32 31,
⟨some 33, .build z5 [(0, 1, (.t 32)), (1, 1, (.c (.int .i64 (-1)))), (2, 1, (.c (.int .i64 (-1))))], none⟩,
⟨some 11, .alloc z5, none⟩, st 3 11 33] [2, 3, 4, 7, 8, 9, 10, 11, 24, 25, 26])
(.seq
(.block 2
(.loop [(2, none), (3, none), (4, none), (7, none), (8, none), (9, none), (10, none), (11, none), (24, none), (25, none), (26, none), (1000008, none)]
(.seq
(.seq
(.region none [
mv 34 8, le 35 34, bc 36 .gtr 35 0] [2, 3, 4, 7, 8, 9, 10, 11, 24, 25, 26, 36])
(.cond (.t 36)
.skip
(.exit 2)))
(.block 3
(.seq
(.region none [
mv 37 8, mv 38 8, le 39 38, bc 40 .sub 39 1, ia 41 1 37 40, ln 42 41, mv 12 42] [2, 3, 4, 7, 8, 9, 10, 11, 12, 24, 25, 26])
(.seq
(.seq
(.region (some [0, 1, 0, 7, 15, 0, 0, 127, 255, 511, 511, 1023, 4095]) [
fa 44 0 2, ln 45 44, mv 46 12, ia 47 3 45 46, ld 48 3 47, ld 49 3 10, ld 50 2 3, p3 51 80 48 49 50, mv 43 51, ex 52 0 43, ex 53 1 43, mv 13 52,
mv 14 53] [2, 3, 4, 7, 8, 9, 10, 11, 12, 13, 24, 25, 26])
(.seq
(.region none [
mv 54 13] [2, 3, 4, 7, 8, 9, 10, 11, 12, 24, 25, 26, 54])
(.cond (.t 54)
(.exit 2)
.skip)))
(.region (some [0, 0, 0, 4, 12, 30, 1, 65, 255]) [
mv 55 12, mv 56 8, mv 57 8, le 58 57, bc 59 .sub 58 1, ⟨some 60, .slc 1 (.t 56) none (some (.t 59)) none, none⟩, fa 61 1 11, st 1 61 55,
mv 8 60] [2, 3, 4, 7, 8, 9, 10, 11, 24, 25, 26])))))))
(.seq
(.seq
(.region none [
mv 62 8, le 63 62, bc 64 .gtr 63 0] [2, 3, 4, 7, 8, 9, 11, 24, 25, 26, 64])
(.cond (.t 64)
(.region (some [0, 1, 0, 0, 8, 24, 60, 124, 0, 511, 1023, 2047]) [
fa 65 1 7, ln 66 65, mv 67 8, mv 68 8, le 69 68, bc 70 .sub 69 1, ia 71 1 67 70, ln 72 71, mv 73 9, ia 74 3 66 72, fa 75 2 74,
st 1 75 73] [2, 3, 4, 7, 8, 9, 11, 24, 25, 26])
(.region none [
mv 76 9, fa 77 0 7, st 1 77 76] [2, 3, 4, 7, 8, 9, 11, 24, 25, 26])))
(.region none [
fa 78 1 7, ln 79 78, ld 80 3 11, ⟨some 81, .mkrow 3 1 z5 [(0, (.t 80))], none⟩, ap 82 3 79 81, mv 83 8, mv 84 9,
⟨some 85, .mkrow 1 1 [.int .i64 0] [(0, (.t 84))], none⟩, ap 86 1 83 85, fa 87 1 7, st 1 87 82, mv 8 86] [2, 3, 4, 7, 8, 24, 25, 26]))))))
(.region none [
bc 88 .add 26 1, mv 26 88] [2, 3, 4, 7, 8, 24, 25, 26])))))))
(.seq
(.region none [
ld 89 2 7, st 2 4 89, ic 5 0] [4, 5])
.ret)))))),
[.cell 4 (some 2), .tmp 5]⟩
theorem x50_ok : ck x50 50 := by decide +kernel
/-- peloton/ratio.gcd -/
def x51 : XFunc := ⟨2,
(.seq
(.region none [
⟨some 4, .mov (.c (.int .u64 0)), none⟩] [0, 1])
(.seq
(.block 0
(.loop [(0, none), (1, none)]
(.seq
(.seq
(.region none [
mv 5 1, ⟨some 6, .bin .gtr (.t 5) (.c (.int .u64 0)), none⟩] [0, 1, 6])
(.cond (.t 6)
.skip
(.exit 0)))
(.block 1
(.region (some [0, 0, 0, 6, 3, 31]) [
mv 7 1, mv 8 0, mv 9 1, bt 10 .rem 8 9, mv 0 7, mv 1 10] [0, 1])))))
(.seq
(.region none [
mv 11 0, mv 4 11] [4])
.ret))),
[.tmp 4]⟩
theorem x51_ok : ck x51 51 := by decide +kernel
/-- peloton/ratio.abs -/
def x52 : XFunc := ⟨1,
(.seq
(.region none [
⟨some 2, .mov (.c (.int .u64 0)), none⟩] [0])
(.seq
(.seq
(.region none [
mv 3 0, bc 4 .lss 3 0] [0, 4])
(.cond (.t 4)
(.seq
(.region none [
mv 5 0, ⟨some 6, .conv .u64 (.t 5), none⟩, ⟨some 7, .un .neg (.t 6), none⟩, mv 2 7] [2])
.ret)
.skip))
(.seq
(.region none [
mv 8 0, ⟨some 9, .conv .u64 (.t 8), none⟩, mv 2 9] [2])
.ret))),
[.tmp 2]⟩
theorem x52_ok : ck x52 52 := by decide +kernel
/-- peloton/ratio.both -/
def x53 : XFunc := ⟨2,
(.seq
(.region none [
bx 2 0, bx 3 1, ic 4 0] [2, 3])
(.seq
(.region (some [0, 1, 0, 7, 15, 31]) [
ld 5 2 2, p1 6 25 5, ld 7 2 3, p1 8 25 7, ⟨some 9, .mm true (.t 6) [(.t 8)], none⟩, mv 4 9] [4])
.ret)),
[.tmp 4]⟩
theorem x53_ok : ck x53 53 := by decide +kernel
/-- cmp.Compare[int64] -/
def x54 : XFunc := ⟨2,
(.seq
(.region none [
ic 4 0] [0, 1])
(.seq
(.region none [
mv 7 0, p1 8 81 7, mv 5 8] [0, 1, 5])
(.seq
(.region none [
mv 9 1, p1 10 81 9, mv 6 10] [0, 1, 5, 6])
(.seq
(.seq
(.region none [
mv 11 5] [0, 1, 6, 11])
(.cond (.t 11)
(.seq
(.seq
(.region none [
mv 12 6] [12])
(.cond (.t 12)
(.seq
(.region none [
ic 4 0] [4])
.ret)
.skip))
(.seq
(.region none [
ic 4 (-1)] [4])
.ret))
.skip))
(.seq
(.seq
(.region none [
mv 13 6] [0, 1, 13])
(.cond (.t 13)
(.seq
(.region none [
ic 4 1] [4])
.ret)
.skip))
(.seq
(.seq
(.region none [
mv 14 0, mv 15 1, bt 16 .lss 14 15] [0, 1, 16])
(.cond (.t 16)
(.seq
(.region none [
ic 4 (-1)] [4])
.ret)
.skip))
(.seq
(.seq
(.region none [
mv 17 0, mv 18 1, bt 19 .gtr 17 18] [19])
(.cond (.t 19)
(.seq
(.region none [
ic 4 1] [4])
.ret)
.skip))
(.seq
(.region none [
ic 4 0] [4])
.ret)))))))),
[.tmp 4]⟩
theorem x54_ok : ck x54 54 := by decide +kernel
/-- peloton/ratio.compare -/
def x55 : XFunc := ⟨2,
(.seq
(.region none [
bx 2 0, bx 3 1, ic 4 0] [2, 3])
(.seq
(.seq
(.region none [
fa 6 1 2, ln 7 6, fa 8 1 3, ln 9 8, p2 10 82 7 9, mv 5 10] [2, 3, 5])
(.seq
(.region none [
mv 11 5, bc 12 .neq 11 0] [2, 3, 5, 12])
(.cond (.t 12)
(.seq
(.region none [
mv 13 5, mv 4 13] [4])
.ret)
.skip)))
(.seq
(.region none [
fa 14 2 2, ln 15 14, fa 16 2 3, ln 17 16, p2 18 82 15 17, mv 4 18] [4])
.ret))),
[.tmp 4]⟩
theorem x55_ok : ck x55 55 := by decide +kernel
/-- peloton/ratio.times -/
def x56 : XFunc := ⟨2,
(.seq
(.region none [
⟨some 4, .alloc z6, none⟩] [0, 1, 4])
(.seq
(.region none [
mv 8 0, p1 9 52 8, mv 10 1, p1 11 52 10, p2 12 83 9 11, mv 7 12, ex 13 0 7, ex 14 1 7, mv 5 13, mv 6 14] [0, 1, 4, 5, 6])
(.seq
(.region none [
mv 15 0, bc 16 .lss 15 0, mv 17 1, bc 18 .lss 17 0, ⟨some 19, .binb true (.t 16) (.t 18), none⟩, mv 20 5, mv 21 6,
⟨some 22, .build z6 [(0, 1, (.t 19)), (1, 1, (.t 20)), (2, 1, (.t 21))], none⟩, st 3 4 22] [4])
.ret))),
[.cell 4 (some 3)]⟩
theorem x56_ok : ck x56 56 := by decide +kernel
/-- peloton/clock.until -/
def x57 : XFunc := ⟨2,
(.seq
(.region none [
bx 2 0, bx 3 1, ⟨some 4, .mov (.c (.bool false)), none⟩, ic 5 0] [2, 3])
(.seq
(.seq
(.region (some [0, 1, 0, 7, 15, 31]) [
ld 13 11 2, p1 14 30 13, ld 15 2 3, p1 16 25 15, ⟨some 17, .mm true (.t 14) [(.t 16)], none⟩, mv 6 17] [2, 3, 6])
(.seq
(.region none [
mv 18 6, bc 19 .neq 18 0] [2, 3, 6, 19])
(.cond (.t 19)
(.seq
(.region none [
mv 20 6, ⟨some 4, .mov (.c (.bool false)), none⟩, mv 5 20] [4, 5])
.ret)
.skip)))
(.seq
(.seq
(.region none [
ld 22 2 3, fa 23 0 2, ld 24 2 23, p2 25 26 22 24, mv 21 25, ex 26 0 21, ex 27 1 21, mv 7 26, mv 8 27] [2, 3, 7])
(.seq
(.region none [
mv 28 7, bc 29 .lss 28 0] [2, 3, 29])
(.cond (.t 29)
(.seq
(.region none [
⟨some 4, .mov (.c (.bool false)), none⟩, ic 5 44] [4, 5])
.ret)
.skip)))
(.seq
(.region none [
fa 31 5 2, ld 32 5 31, p1 33 84 32, mv 30 33, ex 34 0 30, ex 35 1 30, ⟨some 9, .alloc z3, none⟩,
st 5 9 34, mv 10 35] [3, 9, 10])
(.seq
(.seq
(.region none [
mv 36 10, bc 37 .neq 36 0] [3, 9, 37])
(.cond (.t 37)
(.seq
(.region none [
⟨some 4, .mov (.c (.bool false)), none⟩, ic 5 0] [4, 5])
.ret)
.skip))
(.seq
(.region none [
fa 39 0 9, ld 40 2 39, ld 41 2 3, p2 42 26 40 41, mv 38 42, ex 43 0 38, ex 44 1 38, mv 11 43, mv 12 44] [11])
(.seq
(.region none [
mv 45 11, bc 46 .leq 45 0, mv 4 46, ic 5 0] [4, 5])
.ret))))))),
[.tmp 4, .tmp 5]⟩
theorem x57_ok : ck x57 57 := by decide +kernel
/-- peloton/clock.drop -/
def x58 : XFunc := ⟨2,
(.seq
(.region none [
bx 2 0,
⟨some 4, .alloc z1, none⟩,
⟨some 5, .alloc z8, none⟩, ic 6 0] [1, 2, 4, 5])
(.seq
(.region none [
fa 17 3 2, ld 18 2 17, mv 19 1, p2 20 85 18 19, mv 16 20, ex 21 0 16, ex 22 1 16, ex 23 2 16, ⟨some 7, .alloc z7, none⟩,
⟨some 8, .alloc z8, none⟩, st 2 7 21, st 2 8 22, mv 9 23] [1, 2, 4, 5, 7, 8, 9])
(.seq
(.seq
(.region none [
mv 24 9, bc 25 .neq 24 0] [1, 2, 4, 5, 7, 8, 9, 25])
(.cond (.t 25)
(.seq
(.region (some [0, 0, 0, 1, 11, 31]) [
⟨some 26, .build z1 [], none⟩,
ld 27 2 8, mv 28 9, st 11 4 26, st 2 5 27, mv 6 28] [4, 5, 6])
.ret)
.skip))
(.seq
(.region none [
ld 29 11 2, ⟨some 30, .call .own 60 [(.t 29)], none⟩,
⟨some 10, .alloc z1, none⟩,
st 11 10 30] [1, 2, 4, 5, 7, 8, 10])
(.seq
(.region none [
ld 31 2 7, fa 32 3 10, st 2 32 31] [1, 2, 4, 5, 8, 10])
(.seq
(.seq
(.region none [
fa 34 10 2, ln 35 34, mv 36 1, p2 37 86 35 36, mv 33 37, ex 38 0 33, ex 39 1 33, mv 11 38, mv 12 39] [2, 4, 5, 8, 10, 11, 12])
(.seq
(.region none [
mv 40 12] [2, 4, 5, 8, 10, 11, 40])
(.cond (.t 40)
(.seq
(.region (some [0, 1, 0, 4, 0, 28, 60, 124, 255, 511, 1023, 1023, 1023, 0, 0, 26623, 61439, 131071]) [
fa 42 5 2, ld 43 5 42, fa 44 10 2, ln 45 44, mv 46 11, ia 47 3 45 46, fa 48 1 47, ld 49 2 48, p2 50 87 43 49, mv 41 50, ex 51 0 41, ex 52 1 41, ex 53 2 41,
⟨some 13, .alloc z2, none⟩,
⟨some 14, .alloc z3, none⟩, st 5 13 51, st 5 14 52, mv 15 53] [4, 5, 8, 10, 11, 13, 15])
(.seq
(.seq
(.region none [
mv 54 15, bc 55 .neq 54 0] [4, 5, 8, 10, 11, 13, 15, 55])
(.cond (.t 55)
(.seq
(.region (some [0, 0, 0, 1, 11, 31]) [
⟨some 56, .build z1 [], none⟩,
ld 57 2 8, mv 58 15, st 11 4 56, st 2 5 57, mv 6 58] [4, 5, 6])
.ret)
.skip))
(.region (some [0, 0, 2, 0, 0, 16, 62, 7, 255, 511, 1023]) [
ld 59 5 13, fa 60 10 10, ln 61 60, mv 62 11, mv 63 11, bc 64 .add 63 1, ⟨some 65, .call .fp 88 [(.t 61), (.t 62), (.t 64)], none⟩, fa 66 5 10, st 5 66 59,
fa 67 10 10, st 1 67 65] [4, 5, 8, 10])))
.skip)))
(.seq
(.region (some [0, 0, 1, 7, 15]) [
ld 68 11 10, ld 69 2 8, st 11 4 68, st 2 5 69, ic 6 0] [4, 5, 6])
.ret))))))),
[.cell 4 (some 11), .cell 5 (some 2), .tmp 6]⟩
theorem x58_ok : ck x58 58 := by decide +kernel
/-- peloton/kheap.Renew -/
def x59 : XFunc := ⟨3,
(.seq
(.region none [
bx 3 0, bx 4 1,
⟨some 6, .alloc z1, none⟩,
ic 7 0] [2, 3, 4, 6])
(.seq
(.seq
(.region none [
ld 20 11 3, p1 21 30 20, mv 8 21] [2, 3, 4, 6, 8])
(.seq
(.region none [
mv 22 8, bc 23 .neq 22 0] [2, 3, 4, 6, 8, 23])
(.cond (.t 23)
(.seq
(.region none [
⟨some 24, .build z1 [], none⟩,
mv 25 8, st 11 6 24, mv 7 25] [6, 7])
.ret)
.skip)))
(.seq
(.seq
(.region none [
ld 26 1 4, p1 27 61 26, mv 9 27] [2, 3, 4, 6, 9])
(.seq
(.region none [
mv 28 9, bc 29 .neq 28 0] [2, 3, 4, 6, 9, 29])
(.cond (.t 29)
(.seq
(.region none [
⟨some 30, .build z1 [], none⟩,
mv 31 9, st 11 6 30, mv 7 31] [6, 7])
.ret)
.skip)))
(.seq
(.seq
(.region none [
mv 32 2, le 33 32, ic 34 0] [2, 3, 4, 6, 32, 33, 34])
(.block 0
(.loop [(2, none), (3, none), (4, none), (6, none), (32, none), (33, none), (34, none)]
(.seq
(.region none [
bt 35 .lss 34 33] [2, 3, 4, 6, 32, 33, 34, 35])
(.seq
(.cond (.t 35)
.skip
(.exit 0))
(.seq
(.block 1
(.seq
(.region none [
ia 36 2 32 34, ld 37 2 36, ⟨some 11, .alloc z8, none⟩, st 2 11 37] [2, 3, 4, 6, 11, 32, 33, 34])
(.seq
(.region none [
fa 38 0 11, ln 39 38, bc 40 .lss 39 0, mv 41 40, ⟨some 42, .fadr 1 (.t 11), (some (41, false))⟩, ⟨some 43, .load none (.t 42), (some (41, false))⟩,
⟨some 44, .bin .lss (.t 43) (.c (.int .i64 0)), (some (41, false))⟩, por 45 41 44, mv 46 45, ⟨some 47, .fadr 0 (.t 11), (some (46, false))⟩,
⟨some 48, .load none (.t 47), (some (46, false))⟩, ⟨some 49, .bin .gtr (.t 48) (.c (.int .i64 65535)), (some (46, false))⟩, por 50 46 49, mv 51 50,
⟨some 52, .fadr 1 (.t 11), (some (51, false))⟩, ⟨some 53, .load none (.t 52), (some (51, false))⟩,
⟨some 54, .bin .gtr (.t 53) (.c (.int .i64 65535)), (some (51, false))⟩, por 55 51 54, mv 56 55, ⟨some 57, .fadr 0 (.t 11), (some (56, false))⟩,
⟨some 58, .load none (.t 57), (some (56, false))⟩, ⟨some 59, .fadr 1 (.t 11), (some (56, false))⟩, ⟨some 60, .load none (.t 59), (some (56, false))⟩,
⟨some 61, .bin .eql (.t 58) (.t 60), (some (56, false))⟩, por 62 56 61] [2, 3, 4, 6, 32, 33, 34, 62])
(.cond (.t 62)
(.seq
(.region none [
⟨some 63, .build z1 [], none⟩,
st 11 6 63, ic 7 8] [6, 7])
.ret)
.skip))))
(.region none [
bc 64 .add 34 1, mv 34 64] [2, 3, 4, 6, 32, 33, 34])))))))
(.seq
(.seq
(.region none [
mv 65 2, le 66 65, ic 67 0] [2, 3, 4, 6, 65, 66, 67])
(.block 2
(.loop [(2, none), (3, none), (4, none), (6, none), (65, none), (66, none), (67, none)]
(.seq
(.region none [
bt 68 .lss 67 66] [2, 3, 4, 6, 65, 66, 67, 68])
(.seq
(.cond (.t 68)
.skip
(.exit 2))
(.seq
(.block 3
(.seq
(.region none [
mv 69 67, ia 70 2 65 67, ld 71 2 70, ⟨some 13, .alloc z8, none⟩, mv 12 69, st 2 13 71] [2, 3, 4, 6, 12, 13, 65, 66, 67])
(.seq
(.region (some [0, 0, 3, 0, 15]) [
mv 72 2, mv 73 12, ⟨some 74, .slc 2 (.t 72) none (some (.t 73)) none, none⟩, ld 75 2 13, p2 76 66 74 75] [2, 3, 4, 6, 65, 66, 67, 76])
(.cond (.t 76)
(.seq
(.region none [
⟨some 77, .build z1 [], none⟩,
st 11 6 77, ic 7 14] [6, 7])
.ret)
.skip))))
(.region none [
bc 78 .add 67 1, mv 67 78] [2, 3, 4, 6, 65, 66, 67])))))))
(.seq
(.seq
(.region none [
mv 79 2, le 80 79, ic 81 0] [2, 3, 4, 6, 79, 80, 81])
(.block 4
(.loop [(2, none), (3, none), (4, none), (6, none), (79, none), (80, none), (81, none)]
(.seq
(.region none [
bt 82 .lss 81 80] [2, 3, 4, 6, 79, 80, 81, 82])
(.seq
(.cond (.t 82)
.skip
(.exit 4))
(.seq
(.block 5
(.seq
(.region none [
ia 83 2 79 81, ld 84 2 83, ⟨some 15, .alloc z8, none⟩, st 2 15 84] [2, 3, 4, 6, 15, 79, 80, 81])
(.seq
(.region none [
ld 86 1 4, fa 87 0 15, ln 88 87, p2 89 89 86 88, mv 85 89, ex 90 0 85, ex 91 1 85, ⟨some 16, .alloc z5, none⟩, st 3 16 90,
mv 17 91] [2, 3, 4, 6, 15, 17, 79, 80, 81])
(.seq
(.region none [
ld 93 1 4, fa 94 1 15, ln 95 94, p2 96 89 93 95, mv 92 96, ex 97 0 92, ex 98 1 92, ⟨some 18, .alloc z5, none⟩, st 3 18 97,
mv 19 98] [2, 3, 4, 6, 17, 19, 79, 80, 81])
(.seq
(.region none [
mv 99 17, bc 100 .neq 99 0, mv 101 100, ⟨some 102, .mov (.t 19), (some (101, false))⟩, ⟨some 103, .bin .neq (.t 102) (.c (.int .i64 0)), (some (101, false))⟩,
por 104 101 103] [2, 3, 4, 6, 79, 80, 81, 104])
(.cond (.t 104)
(.seq
(.region none [
⟨some 105, .build z1 [], none⟩,
st 11 6 105, ic 7 6] [6, 7])
.ret)
.skip))))))
(.region none [
bc 106 .add 81 1, mv 81 106] [2, 3, 4, 6, 79, 80, 81])))))))
(.seq
(.region (some [0, 1, 0, 0, 15, 31, 31, 127, 255]) [
ld 107 11 3, ⟨some 108, .call .own 91 [(.t 107)], none⟩, ld 109 1 4, mv 110 2, p3 111 90 108 109 110, ex 112 0 111, ex 113 1 111, st 11 6 112, mv 7 113] [6, 7])
.ret))))))),
[.cell 6 (some 11), .tmp 7]⟩
theorem x59_ok : ck x59 59 := by decide +kernel
/-- peloton/clock.twin -/
def x60 : XFunc := ⟨1,
(.seq
(.region none [
bx 1 0,
⟨some 2, .alloc z1, none⟩] [1, 2])
(.seq
(.region (some [0, 1, 3, 7, 0, 16, 48, 127, 0, 256, 1023, 2047, 4095, 8191, 16383, 32767, 65535, 131071, 262143]) [
fa 4 2 1, fa 5 0 4, ln 6 5, p1 7 69 6, fa 8 3 1, fa 9 1 8, ln 10 9, p1 11 92 10, fa 12 10 1, ln 13 12, p1 14 93 13, fa 15 2 1, fa 16 0 15, st 1 16 7, fa 17 3 1,
fa 18 1 17, st 1 18 11, fa 19 10 1, st 1 19 14] [1, 2])
(.seq
(.region (some [0, 1, 3, 7, 0, 16, 48, 127, 255, 511, 1023, 2047, 4095, 8191]) [
fa 20 5 1, fa 21 3 20, ln 22 21, p1 23 94 22, fa 24 5 1, fa 25 4 24, ln 26 25, p1 27 95 26, fa 28 5 1, fa 29 3 28, st 1 29 23, fa 30 5 1, fa 31 4 30,
st 1 31 27] [1, 2])
(.seq
(.region none [
fa 32 5 1, fa 33 0 32, mv 3 33] [1, 2, 3])
(.seq
(.region (some [0, 0, 0, 0, 8, 24, 56, 120, 0, 256, 768, 1792, 4088, 0, 8192, 24576, 57344, 131064, 262137, 524281, 1048569, 2097147, 4194299, 8388603, 16777215, 33554431, 67108863]) [
mv 34 3, mv 35 3, mv 36 3, mv 37 3, ⟨some 38, .nilc (.t 37), none⟩, fa 39 0 38, ln 40 39, p1 41 95 40, mv 42 3, ⟨some 43, .nilc (.t 42), none⟩, fa 44 1 43,
ln 45 44, p1 46 96 45, mv 47 3, ⟨some 48, .nilc (.t 47), none⟩, fa 49 2 48, ln 50 49, p1 51 95 50, ⟨some 52, .nilc (.t 34), none⟩, fa 53 0 52, st 1 53 41,
⟨some 54, .nilc (.t 35), none⟩, fa 55 1 54, st 1 55 46, ⟨some 56, .nilc (.t 36), none⟩, fa 57 2 56, st 1 57 51] [1, 2])
(.seq
(.region none [
ld 58 11 1, st 11 2 58] [2])
.ret)))))),
[.cell 2 (some 11)]⟩
theorem x60_ok : ck x60 60 := by decide +kernel
/-- peloton/field.Check -/
def x61 : XFunc := ⟨1,
(.seq
(.region none [
bx 1 0, ic 2 0] [1])
(.seq
(.seq
(.region none [
fa 8 0 1, ln 9 8, le 10 9, bc 11 .gtr 10 64] [1, 11])
(.cond (.t 11)
(.seq
(.region none [
ic 2 4] [2])
.ret)
.skip))
(.seq
(.seq
(.region none [
fa 12 0 1, ln 13 12, le 14 13, ic 15 0] [1, 13, 14, 15])
(.block 0
(.loop [(1, none), (13, none), (14, none), (15, none)]
(.seq
(.region none [
bt 16 .lss 15 14] [1, 13, 14, 15, 16])
(.seq
(.cond (.t 16)
.skip
(.exit 0))
(.seq
(.block 1
(.seq
(.region none [
ia 17 3 13 15, ld 18 3 17, ⟨some 4, .alloc z5, none⟩, st 3 4 18] [1, 4, 13, 14, 15])
(.seq
(.region none [
ld 19 3 4, p1 20 97 19, mv 5 20] [1, 5, 13, 14, 15])
(.seq
(.region none [
mv 21 5, bc 22 .neq 21 0] [1, 5, 13, 14, 15, 22])
(.cond (.t 22)
(.seq
(.region none [
mv 23 5, mv 2 23] [2])
.ret)
.skip)))))
(.region none [
bc 24 .add 15 1, mv 15 24] [1, 13, 14, 15])))))))
(.seq
(.seq
(.region none [
fa 25 0 1, ln 26 25, le 27 26, ic 28 0] [1, 26, 27, 28])
(.block 2
(.loop [(1, none), (26, none), (27, none), (28, none)]
(.seq
(.region none [
bt 29 .lss 28 27] [1, 26, 27, 28, 29])
(.seq
(.cond (.t 29)
.skip
(.exit 2))
(.seq
(.block 3
(.seq
(.region none [
mv 30 28, ia 31 3 26 28, ld 32 3 31, ⟨some 7, .alloc z5, none⟩, mv 6 30, st 3 7 32] [1, 6, 7, 26, 27, 28])
(.seq
(.region (some [0, 1, 3, 7, 15, 7, 39, 127, 255, 511, 7, 1031, 4095, 8191]) [
mv 33 6, bc 34 .gtr 33 0, mv 35 34, ⟨some 36, .fadr 0 (.t 1), (some (35, true))⟩, ⟨some 37, .load none (.t 36), (some (35, true))⟩,
⟨some 38, .mov (.t 6), (some (35, true))⟩, ⟨some 39, .bin .sub (.t 38) (.c (.int .i64 1)), (some (35, true))⟩,
⟨some 40, .iadr 3 (.t 37) (.t 39), (some (35, true))⟩, ⟨some 41, .fadr 0 (.t 40), (some (35, true))⟩, ⟨some 42, .load none (.t 41), (some (35, true))⟩,
⟨some 43, .fadr 0 (.t 7), (some (35, true))⟩, ⟨some 44, .load none (.t 43), (some (35, true))⟩, ⟨some 45, .bin .geq (.t 42) (.t 44), (some (35, true))⟩,
pan 46 35 45] [1, 26, 27, 28, 46])
(.cond (.t 46)
(.seq
(.region none [
ic 2 32] [2])
.ret)
.skip))))
(.region none [
bc 47 .add 28 1, mv 28 47] [1, 26, 27, 28])))))))
(.seq
(.region none [
ic 2 0] [2])
.ret))))),
[.tmp 2]⟩
theorem x61_ok : ck x61 61 := by decide +kernel
/-- peloton/cert.Check -/
def x62 : XFunc := ⟨1,
(.seq
(.region none [
bx 1 0, ic 2 0] [1])
(.seq
(.seq
(.region none [
fa 7 1 1, ln 8 7, le 9 8, bc 10 .gtr 9 200, mv 11 10, ⟨some 12, .fadr 0 (.t 1), (some (11, false))⟩, ⟨some 13, .load none (.t 12), (some (11, false))⟩,
⟨some 14, .bin .lss (.t 13) (.c (.int .i64 0)), (some (11, false))⟩, por 15 11 14, mv 16 15, ⟨some 17, .fadr 0 (.t 1), (some (16, false))⟩,
⟨some 18, .load none (.t 17), (some (16, false))⟩, ⟨some 19, .bin .gtr (.t 18) (.c (.int .i64 1000000)), (some (16, false))⟩, por 20 16 19] [1, 20])
(.cond (.t 20)
(.seq
(.region none [
ic 2 8] [2])
.ret)
.skip))
(.seq
(.region none [
⟨some 21, .mkm, none⟩, mv 3 21, ic 4 (-1)] [1, 3, 4])
(.seq
(.seq
(.region none [
fa 22 1 1, ln 23 22, le 24 23, ic 25 0] [1, 3, 4, 23, 24, 25])
(.block 0
(.loop [(1, none), (3, none), (4, none), (23, none), (24, none), (25, none)]
(.seq
(.region none [
bt 26 .lss 25 24] [1, 3, 4, 23, 24, 25, 26])
(.seq
(.cond (.t 26)
.skip
(.exit 0))
(.seq
(.block 1
(.seq
(.region none [
ia 27 3 23 25, ld 28 3 27, ⟨some 6, .alloc z5, none⟩, st 3 6 28] [1, 3, 4, 6, 23, 24, 25])
(.seq
(.seq
(.region none [
fa 29 1 6, ld 30 2 29, p1 31 98 30, ⟨some 32, .un .not (.t 31), none⟩, mv 33 32, ⟨some 34, .mov (.t 3), (some (33, false))⟩,
⟨some 35, .fadr 1 (.t 6), (some (33, false))⟩, ⟨some 36, .load (some 2) (.t 35), (some (33, false))⟩,
⟨some 37, .lookup (some 2) (.bool false) false (.t 34) (.t 36), (some (33, false))⟩, por 38 33 37, mv 39 38, ⟨some 40, .fadr 0 (.t 6), (some (39, false))⟩,
⟨some 41, .load none (.t 40), (some (39, false))⟩, ⟨some 42, .mov (.t 4), (some (39, false))⟩, ⟨some 43, .bin .leq (.t 41) (.t 42), (some (39, false))⟩,
por 44 39 43, mv 45 44, ⟨some 46, .fadr 0 (.t 6), (some (45, false))⟩, ⟨some 47, .load none (.t 46), (some (45, false))⟩,
⟨some 48, .fadr 0 (.t 1), (some (45, false))⟩, ⟨some 49, .load none (.t 48), (some (45, false))⟩, ⟨some 50, .bin .geq (.t 47) (.t 49), (some (45, false))⟩,
por 51 45 50] [1, 3, 6, 23, 24, 25, 51])
(.cond (.t 51)
(.seq
(.region none [
ic 2 8] [2])
.ret)
.skip))
(.region (some [0, 0, 2, 0, 8, 7, 63]) [
mv 52 3, fa 53 1 6, ld 54 2 53, fa 55 0 6, ln 56 55, ⟨none, .mapu (some 2) (.t 52) (.t 54) (.c (.bool true)), none⟩, mv 4 56] [1, 3, 4, 23, 24, 25]))))
(.region none [
bc 57 .add 25 1, mv 25 57] [1, 3, 4, 23, 24, 25])))))))
(.seq
(.region none [
ic 2 0] [2])
.ret))))),
[.tmp 2]⟩
theorem x62_ok : ck x62 62 := by decide +kernel
/-- peloton/agenda.Check -/
def x63 : XFunc := ⟨1,
(.seq
(.region none [
bx 1 0, ic 2 0] [1])
(.seq
(.seq
(.region none [
fa 8 0 1, ld 9 3 8, p1 10 99 9, bc 11 .neq 10 0, mv 12 11, ⟨some 13, .fadr 4 (.t 1), (some (12, false))⟩, ⟨some 14, .load none (.t 13), (some (12, false))⟩,
⟨some 15, .len (.t 14), (some (12, false))⟩, ⟨some 16, .fadr 0 (.t 1), (some (12, false))⟩, ⟨some 17, .fadr 1 (.t 16), (some (12, false))⟩,
⟨some 18, .load none (.t 17), (some (12, false))⟩, ⟨some 19, .len (.t 18), (some (12, false))⟩, ⟨some 20, .bin .neq (.t 15) (.t 19), (some (12, false))⟩,
por 21 12 20, mv 22 21, ⟨some 23, .fadr 3 (.t 1), (some (22, false))⟩, ⟨some 24, .load none (.t 23), (some (22, false))⟩,
⟨some 25, .len (.t 24), (some (22, false))⟩, ⟨some 26, .fadr 0 (.t 1), (some (22, false))⟩, ⟨some 27, .fadr 1 (.t 26), (some (22, false))⟩,
⟨some 28, .load none (.t 27), (some (22, false))⟩, ⟨some 29, .len (.t 28), (some (22, false))⟩, ⟨some 30, .fadr 0 (.t 1), (some (22, false))⟩,
⟨some 31, .fadr 2 (.t 30), (some (22, false))⟩, ⟨some 32, .load none (.t 31), (some (22, false))⟩, ⟨some 33, .len (.t 32), (some (22, false))⟩,
⟨some 34, .bin .sub (.t 29) (.t 33), (some (22, false))⟩, ⟨some 35, .bin .neq (.t 25) (.t 34), (some (22, false))⟩, por 36 22 35] [1, 36])
(.cond (.t 36)
(.seq
(.region none [
ic 2 8] [2])
.ret)
.skip))
(.seq
(.seq
(.region none [
fa 37 4 1, ln 38 37, le 39 38, ic 40 0] [1, 38, 39, 40])
(.block 0
(.loop [(1, none), (38, none), (39, none), (40, none)]
(.seq
(.region none [
bt 41 .lss 40 39] [1, 38, 39, 40, 41])
(.seq
(.cond (.t 41)
.skip
(.exit 0))
(.seq
(.block 1
(.seq
(.region none [
mv 42 40, ia 43 1 38 40, ln 44 43, mv 3 42, mv 4 44] [1, 3, 4, 38, 39, 40])
(.seq
(.seq
(.region none [
fa 45 0 1, fa 46 1 45, ln 47 46, mv 48 3, ia 49 1 47 48, ln 50 49, ⟨some 51, .un .not (.t 50), none⟩] [1, 3, 4, 38, 39, 40, 51])
(.cond (.t 51)
(.seq
(.seq
(.region none [
mv 52 4, bc 53 .neq 52 (-1)] [1, 38, 39, 40, 53])
(.cond (.t 53)
(.seq
(.region none [
ic 2 8] [2])
.ret)
.skip))
(.exit 1))
.skip))
(.seq
(.region (some [0, 1, 3, 7, 7, 23, 55, 127, 255, 511, 1023, 2047, 1023, 8191, 16383, 32767, 1023, 1023, 132095, 394239, 1023, 1967103, 4064255, 8324095, 16777215, 33554431]) [
mv 54 4, bc 55 .lss 54 0, mv 56 55, ⟨some 57, .mov (.t 4), (some (56, false))⟩, ⟨some 58, .fadr 3 (.t 1), (some (56, false))⟩,
⟨some 59, .load none (.t 58), (some (56, false))⟩, ⟨some 60, .len (.t 59), (some (56, false))⟩, ⟨some 61, .bin .geq (.t 57) (.t 60), (some (56, false))⟩,
por 62 56 61, mv 63 62, ⟨some 64, .fadr 3 (.t 1), (some (63, false))⟩, ⟨some 65, .load none (.t 64), (some (63, false))⟩,
⟨some 66, .mov (.t 4), (some (63, false))⟩, ⟨some 67, .iadr 5 (.t 65) (.t 66), (some (63, false))⟩, ⟨some 68, .fadr 3 (.t 67), (some (63, false))⟩,
⟨some 69, .load (some 2) (.t 68), (some (63, false))⟩, ⟨some 70, .mov (.t 3), (some (63, false))⟩, ⟨some 71, .fadr 0 (.t 1), (some (63, false))⟩,
⟨some 72, .fadr 0 (.t 71), (some (63, false))⟩, ⟨some 73, .load none (.t 72), (some (63, false))⟩, ⟨some 74, .mov (.t 3), (some (63, false))⟩,
⟨some 75, .iadr 1 (.t 73) (.t 74), (some (63, false))⟩, ⟨some 76, .load none (.t 75), (some (63, false))⟩,
⟨some 77, .build z8 [(0, 1, (.t 70)), (1, 1, (.t 76))], (some (63, false))⟩, ⟨some 78, .eqc 2 true (.t 69) (.t 77), (some (63, false))⟩,
por 79 63 78] [1, 38, 39, 40, 79])
(.cond (.t 79)
(.seq
(.region none [
ic 2 8] [2])
.ret)
.skip)))))
(.region none [
bc 80 .add 40 1, mv 40 80] [1, 38, 39, 40])))))))
(.seq
(.region none [
⟨some 81, .mkm, none⟩, mv 5 81] [1, 5])
(.seq
(.seq
(.region none [
fa 82 3 1, ln 83 82, le 84 83, ic 85 0] [1, 5, 83, 84, 85])
(.block 2
(.loop [(1, none), (5, none), (83, none), (84, none), (85, none)]
(.seq
(.region none [
bt 86 .lss 85 84] [1, 5, 83, 84, 85, 86])
(.seq
(.cond (.t 86)
.skip
(.exit 2))
(.seq
(.block 3
(.seq
(.region none [
mv 87 85, ia 88 5 83 85, ld 89 5 88, ⟨some 7, .alloc z3, none⟩, mv 6 87,
st 5 7 89] [1, 5, 6, 7, 83, 84, 85])
(.seq
(.seq
(.region none [
fa 90 0 7, ld 91 2 90, p1 92 25 91, bc 93 .neq 92 0, mv 94 93, ⟨some 95, .fadr 2 (.t 7), (some (94, false))⟩, ⟨some 96, .load none (.t 95), (some (94, false))⟩,
⟨some 97, .bin .lss (.t 96) (.c (.int .i64 0)), (some (94, false))⟩, por 98 94 97, mv 99 98, ⟨some 100, .fadr 2 (.t 7), (some (99, false))⟩,
⟨some 101, .load none (.t 100), (some (99, false))⟩, ⟨some 102, .bin .gtr (.t 101) (.c (.int .i64 1000000)), (some (99, false))⟩, por 103 99 102, mv 104 103,
⟨some 105, .mov (.t 5), (some (104, false))⟩, ⟨some 106, .fadr 2 (.t 7), (some (104, false))⟩, ⟨some 107, .load none (.t 106), (some (104, false))⟩,
⟨some 108, .lookup none (.bool false) false (.t 105) (.t 107), (some (104, false))⟩, por 109 104 108] [1, 5, 6, 7, 83, 84, 85, 109])
(.cond (.t 109)
(.seq
(.region none [
ic 2 8] [2])
.ret)
.skip))
(.seq
(.region none [
mv 110 5, fa 111 2 7, ln 112 111, ⟨none, .mapu none (.t 110) (.t 112) (.c (.bool true)), none⟩] [1, 5, 6, 7, 83, 84, 85])
(.seq
(.region (some [0, 1, 3, 7, 7, 23, 7, 71, 199, 503, 1015, 2047, 4095, 8191]) [
mv 113 6, bc 114 .gtr 113 0, mv 115 114, ⟨some 116, .load (some 5) (.t 7), (some (115, true))⟩, ⟨some 117, .fadr 3 (.t 1), (some (115, true))⟩,
⟨some 118, .load none (.t 117), (some (115, true))⟩, ⟨some 119, .mov (.t 6), (some (115, true))⟩,
⟨some 120, .bin .sub (.t 119) (.c (.int .i64 1)), (some (115, true))⟩, ⟨some 121, .bin .quo (.t 120) (.c (.int .i64 2)), (some (115, true))⟩,
⟨some 122, .iadr 5 (.t 118) (.t 121), (some (115, true))⟩, ⟨some 123, .load (some 5) (.t 122), (some (115, true))⟩,
⟨some 124, .call .pur 100 [(.t 116), (.t 123)], (some (115, true))⟩, ⟨some 125, .bin .lss (.t 124) (.c (.int .i64 0)), (some (115, true))⟩,
pan 126 115 125] [1, 5, 83, 84, 85, 126])
(.cond (.t 126)
(.seq
(.region none [
ic 2 8] [2])
.ret)
.skip))))))
(.region none [
bc 127 .add 85 1, mv 85 127] [1, 5, 83, 84, 85])))))))
(.seq
(.region none [
ic 2 0] [2])
.ret)))))),
[.tmp 2]⟩
theorem x63_ok : ck x63 63 := by decide +kernel
/-- peloton/clock.when -/
def x64 : XFunc := ⟨3,
(.seq
(.region none [
bx 3 0, bx 4 1, bx 5 2, ⟨some 6, .alloc z8, none⟩, ⟨some 7, .mov (.c (.bool false)), none⟩, ic 8 0] [3, 4, 5, 6])
(.seq
(.region (some [0, 0, 2, 7, 0, 0, 32, 127, 0, 511, 1023, 1023, 1023, 8191, 16383, 32767]) [
ld 9 1 3, fa 10 1 4, ln 11 10, p2 12 102 9 11, ld 13 1 3, fa 14 0 4, ln 15 14, p2 16 102 13 15, ld 17 2 5, p3 18 101 12 16 17, ex 19 0 18, ex 20 1 18,
ex 21 2 18, st 2 6 19, mv 7 20, mv 8 21] [6, 7, 8])
.ret)),
[.cell 6 (some 2), .tmp 7, .tmp 8]⟩
theorem x64_ok : ck x64 64 := by decide +kernel
/-- peloton/heater.just$1 -/
def x65 : XFunc := ⟨2,
(.seq
(.region none [
bx 2 0, ⟨some 3, .mov (.c (.bool false)), none⟩] [1, 2])
(.seq
(.region none [
ln 4 1, fa 5 1 2, ld 6 2 5, p2 7 66 4 6, ⟨some 8, .un .not (.t 7), none⟩, mv 3 8] [3])
.ret)),
[.tmp 3]⟩
theorem x65_ok : ck x65 65 := by decide +kernel
/-- slices.Contains[[]peloton/api.Cert,peloton/api.Cert] -/
def x66 : XFunc := ⟨2,
(.seq
(.region none [
bx 3 1, ⟨some 4, .mov (.c (.bool false)), none⟩] [0, 3])
(.seq
(.region none [
mv 5 0, ld 6 2 3, p2 7 103 5 6, bc 8 .geq 7 0, mv 4 8] [4])
.ret)),
[.tmp 4]⟩
theorem x66_ok : ck x66 66 := by decide +kernel
/-- slices.ContainsFunc[[]peloton/api.Held,peloton/api.Held] -/
def x67 : XFunc := ⟨2,
(.seq
(.region none [
⟨some 4, .mov (.c (.bool false)), none⟩] [0, 1])
(.seq
(.region none [
mv 5 0, mv 6 1, p2 7 104 5 6, bc 8 .geq 7 0, mv 4 8] [4])
.ret)),
[.tmp 4]⟩
theorem x67_ok : ck x67 67 := by decide +kernel
/-- peloton/agenda.New -/
def x68 : XFunc := ⟨1,
(.seq
(.region none [
⟨some 2, .alloc z2, none⟩, ic 3 0] [0, 2])
(.seq
(.region none [
mv 7 0, p1 8 105 7, mv 6 8, ex 9 0 6, ex 10 1 6, ⟨some 4, .alloc z4, none⟩, st 3 4 9, mv 5 10] [0, 2, 4, 5])
(.seq
(.seq
(.region none [
mv 11 5, bc 12 .neq 11 0] [0, 2, 4, 5, 12])
(.cond (.t 12)
(.seq
(.region none [
⟨some 13, .build z2 [], none⟩, mv 14 5, st 5 2 13, mv 3 14] [2, 3])
.ret)
.skip))
(.seq
(.region (some [0, 0, 0, 6, 15, 31, 63]) [
ld 15 3 4, ⟨some 16, .mkrow 1 1 [.int .i64 0] [(0, (.c (.int .i64 (-1))))], none⟩, mv 17 0, ⟨some 18, .call .own 106 [(.t 16), (.t 17)], none⟩,
⟨some 19, .build z2 [(0, 3, (.t 15)), (4, 1, (.t 18))], none⟩, st 5 2 19,
ic 3 0] [2, 3])
.ret)))),
[.cell 2 (some 5), .tmp 3]⟩
theorem x68_ok : ck x68 68 := by decide +kernel
/-- peloton/pelotonref11.Made -/
def x70 : XFunc := ⟨2,
(.seq
(.region none [
bx 2 0, bx 3 1, ⟨some 4, .alloc z7, none⟩] [2, 3, 4])
(.seq
(.region none [
⟨some 5, .alloc z7, none⟩] [2, 3, 4, 5])
(.seq
(.seq
(.region none [
ic 6 0] [2, 3, 4, 5, 6])
(.block 0
(.loop [(2, none), (3, none), (4, none), (5, none), (6, none), (5, some 2003)]
(.seq
(.seq
(.region none [
mv 7 6, fa 8 0 2, ln 9 8, le 10 9, bt 11 .lss 7 10] [2, 3, 4, 5, 6, 11])
(.cond (.t 11)
.skip
(.exit 0)))
(.seq
(.block 1
(.region (some [0, 1, 0, 4, 0, 28, 60, 124, 252, 508, 1023, 2047, 4095]) [
fa 14 1 5, ln 15 14, fa 16 0 2, ln 17 16, mv 18 6, ia 19 3 17 18, fa 20 0 19, ln 21 20,
⟨some 22, .build z5 [(0, 1, (.t 21))], none⟩,
⟨some 23, .mkrow 3 1 z5 [(0, (.t 22))], none⟩, ap 24 3 15 23, fa 25 1 5, st 1 25 24] [2, 3, 4, 5, 6]))
(.region none [
mv 12 6, bc 13 .add 12 1, mv 6 13] [2, 3, 4, 5, 6]))))))
(.seq
(.region none [
ld 26 1 2, ld 27 2 3, ld 28 2 5, fa 29 0 2, ln 30 29, le 31 30, ⟨some 32, .call .fp 107 [(.t 26), (.t 27), (.t 28), (.c (.int .i64 0)), (.t 31)], none⟩,
fa 33 0 5, st 1 33 32] [4, 5])
(.seq
(.region none [
ld 34 2 5, st 2 4 34] [4])
.ret))))),
[.cell 4 (some 2)]⟩
theorem x70_ok : ck x70 70 := by decide +kernel
/-- peloton/pelotonref13.In -/
def x71 : XFunc := ⟨2,
(.seq
(.region none [
bx 3 1, ⟨some 4, .mov (.c (.bool false)), none⟩] [0, 3])
(.seq
(.seq
(.region none [
ic 5 0] [0, 3, 5])
(.block 0
(.loop [(0, none), (3, none), (5, none)]
(.seq
(.seq
(.region none [
mv 6 5, mv 7 0, le 8 7, bt 9 .lss 6 8] [0, 3, 5, 9])
(.cond (.t 9)
.skip
(.exit 0)))
(.seq
(.block 1
(.seq
(.region (some [0, 0, 3, 7, 0, 31]) [
mv 12 0, mv 13 5, ia 14 2 12 13, ld 15 2 14, ld 16 2 3, ⟨some 17, .eqc 2 false (.t 15) (.t 16), none⟩] [0, 3, 5, 17])
(.cond (.t 17)
(.seq
(.region none [
⟨some 4, .mov (.c (.bool true)), none⟩] [4])
.ret)
.skip)))
(.region none [
mv 10 5, bc 11 .add 10 1, mv 5 11] [0, 3, 5]))))))
(.seq
(.region none [
⟨some 4, .mov (.c (.bool false)), none⟩] [4])
.ret))),
[.tmp 4]⟩
theorem x71_ok : ck x71 71 := by decide +kernel
/-- peloton/pelotonref03.Same -/
def x72 : XFunc := ⟨2,
(.seq
(.region none [
bx 2 0, bx 3 1, ⟨some 4, .mov (.c (.bool false)), none⟩] [2, 3])
(.seq
(.seq
(.region none [
fa 6 0 2, ln 7 6, le 8 7, fa 9 0 3, ln 10 9, le 11 10, bt 12 .neq 8 11] [2, 3, 12])
(.cond (.t 12)
(.seq
(.region none [
⟨some 4, .mov (.c (.bool false)), none⟩] [4])
.ret)
.skip))
(.seq
(.seq
(.region none [
ic 5 0] [2, 3, 5])
(.block 0
(.loop [(2, none), (3, none), (5, none)]
(.seq
(.seq
(.region none [
mv 13 5, fa 14 0 2, ln 15 14, le 16 15, bt 17 .lss 13 16] [2, 3, 5, 17])
(.cond (.t 17)
.skip
(.exit 0)))
(.seq
(.block 1
(.seq
(.region (some [0, 1, 0, 7, 15, 0, 32, 0, 224, 480, 1023]) [
fa 20 0 2, ln 21 20, mv 22 5, ia 23 3 21 22, ld 24 3 23, fa 25 0 3, ln 26 25, mv 27 5, ia 28 3 26 27, ld 29 3 28,
⟨some 30, .eqc 3 true (.t 24) (.t 29), none⟩] [2, 3, 5, 30])
(.cond (.t 30)
(.seq
(.region none [
⟨some 4, .mov (.c (.bool false)), none⟩] [4])
.ret)
.skip)))
(.region none [
mv 18 5, bc 19 .add 18 1, mv 5 19] [2, 3, 5]))))))
(.seq
(.region none [
⟨some 4, .mov (.c (.bool true)), none⟩] [4])
.ret)))),
[.tmp 4]⟩
theorem x72_ok : ck x72 72 := by decide +kernel
/-- peloton/pelotonref09.Altered -/
def x73 : XFunc := ⟨2,
(.seq
(.region none [
bx 2 0, bx 3 1,
⟨some 4, .alloc z1, none⟩,
ic 5 0] [2, 3, 4])
(.seq
(.region none [
ld 14 11 2, p1 15 19 14,
⟨some 6, .alloc z1, none⟩,
st 11 6 15] [2, 3, 4, 6])
(.seq
(.region none [
ld 16 1 3, p1 17 42 16, fa 18 2 6, st 1 18 17] [2, 3, 4, 6])
(.seq
(.region none [
fa 19 10 6, ⟨none, .store 1 (.t 19) (.c (.sl 3 true [])), none⟩] [2, 3, 4, 6])
(.seq
(.seq
(.region none [
ic 7 0] [2, 3, 4, 6, 7])
(.block 0
(.loop [(2, none), (3, none), (4, none), (6, none), (7, none), (6, some 11003)]
(.seq
(.seq
(.region none [
mv 20 7, fa 21 3 2, fa 22 1 21, ln 23 22, le 24 23, bt 25 .lss 20 24] [2, 3, 4, 6, 7, 25])
(.cond (.t 25)
.skip
(.exit 0)))
(.seq
(.block 1
(.seq
(.region none [
fa 28 3 2, fa 29 1 28, ln 30 29, mv 31 7, ia 32 3 30 31, ld 33 3 32, ⟨some 8, .alloc z5, none⟩,
st 3 8 33] [2, 3, 4, 6, 7, 8])
(.seq
(.region none [
ld 34 11 2, fa 35 0 8, ln 36 35, p2 37 22 34 36, mv 9 37] [2, 3, 4, 6, 7, 8, 9])
(.seq
(.region none [
ld 39 1 3, fa 40 1 8, ld 41 2 40, fa 42 0 2, ld 43 2 42, p3 44 108 39 41 43, mv 38 44, ex 45 0 38, ex 46 1 38,
⟨some 10, .alloc z8, none⟩, st 2 10 45, mv 11 46] [2, 3, 4, 6, 7, 8, 9, 10, 11])
(.seq
(.seq
(.region none [
mv 47 11, mv 48 47, ⟨some 49, .mov (.t 9), (some (48, true))⟩, ⟨some 50, .bin .geq (.t 49) (.c (.int .i64 0)), (some (48, true))⟩,
pan 51 48 50] [2, 3, 4, 6, 7, 8, 9, 10, 11, 51])
(.cond (.t 51)
(.seq
(.region (some [0, 1, 0, 4, 0, 28, 60, 124, 0, 511, 1023, 2047]) [
fa 52 5 6, ld 53 5 52, fa 54 10 2, ln 55 54, mv 56 9, ia 57 3 55 56, fa 58 1 57, ld 59 2 58, ld 60 2 10, p3 61 109 53 59 60, fa 62 5 6,
st 5 62 61] [2, 3, 4, 6, 7, 8, 9, 10, 11])
(.region (some [0, 1, 0, 4, 0, 28, 60, 124, 255, 511, 1023]) [
fa 63 10 6, ln 64 63, fa 65 10 2, ln 66 65, mv 67 9, ia 68 3 66 67, ld 69 3 68,
⟨some 70, .mkrow 3 1 z5 [(0, (.t 69))], none⟩, ap 71 3 64 70, fa 72 10 6, st 1 72 71] [2, 3, 4, 6, 7, 8, 9, 10, 11]))
.skip))
(.seq
(.seq
(.region none [
mv 73 11, ⟨some 74, .un .not (.t 73), none⟩, mv 75 74, ⟨some 76, .mov (.t 9), (some (75, true))⟩,
⟨some 77, .bin .geq (.t 76) (.c (.int .i64 0)), (some (75, true))⟩, pan 78 75 77] [2, 3, 4, 6, 7, 8, 9, 10, 11, 78])
(.cond (.t 78)
(.region (some [0, 1, 0, 4, 0, 28, 60, 124, 255, 511, 1023]) [
fa 79 5 6, ld 80 5 79, fa 81 10 2, ln 82 81, mv 83 9, ia 84 3 82 83, fa 85 1 84, ld 86 2 85, p2 87 23 80 86, fa 88 5 6,
st 5 88 87] [2, 3, 4, 6, 7, 8, 9, 10, 11])
.skip))
(.seq
(.seq
(.region none [
mv 89 11, ⟨some 90, .un .not (.t 89), none⟩, mv 91 90, ⟨some 92, .mov (.t 9), (some (91, false))⟩,
⟨some 93, .bin .geq (.t 92) (.c (.int .i64 0)), (some (91, false))⟩, por 94 91 93] [2, 3, 4, 6, 7, 8, 10, 94])
(.cond (.t 94)
(.exit 1)
.skip))
(.seq
(.seq
(.region none [
fa 95 5 6, fa 96 0 95, ld 97 3 96, p1 98 110 97, ⟨some 99, .un .not (.t 98), none⟩] [2, 3, 4, 6, 7, 8, 10, 99])
(.cond (.t 99)
(.seq
(.region none [
⟨some 100, .build z1 [], none⟩,
st 11 4 100, ic 5 18] [4, 5])
.ret)
.skip))
(.seq
(.region none [
fa 102 5 6, ld 103 5 102, ld 104 2 10, fa 105 0 8, ln 106 105, p3 107 111 103 104 106, mv 101 107, ex 108 0 101, ex 109 1 101,
⟨some 12, .alloc z2, none⟩, ⟨some 13, .alloc z8, none⟩,
st 5 12 108, st 2 13 109] [2, 3, 4, 6, 7, 8, 12, 13])
(.seq
(.region none [
ld 110 5 12, fa 111 5 6, st 5 111 110] [2, 3, 4, 6, 7, 8, 13])
(.region none [
fa 112 10 6, ln 113 112, fa 114 0 8, ln 115 114, ld 116 2 13,
⟨some 117, .build z5 [(0, 1, (.t 115)), (1, 2, (.t 116))], none⟩,
⟨some 118, .mkrow 3 1 z5 [(0, (.t 117))], none⟩, ap 119 3 113 118, fa 120 10 6, st 1 120 119] [2, 3, 4, 6, 7])))))))))))
(.region none [
mv 26 7, bc 27 .add 26 1, mv 7 27] [2, 3, 4, 6, 7]))))))
(.seq
(.region none [
ld 121 11 6, st 11 4 121, ic 5 0] [4, 5])
.ret)))))),
[.cell 4 (some 11), .tmp 5]⟩
theorem x73_ok : ck x73 73 := by decide +kernel
/-- peloton/pelotonref08.Has -/
def x74 : XFunc := ⟨2,
(.seq
(.region none [
bx 2 0, bx 3 1, ⟨some 4, .mov (.c (.bool false)), none⟩] [2, 3])
(.seq
(.seq
(.region none [
ic 5 0] [2, 3, 5])
(.block 0
(.loop [(2, none), (3, none), (5, none)]
(.seq
(.seq
(.region none [
mv 6 5, fa 7 1 2, ln 8 7, le 9 8, bt 10 .lss 6 9] [2, 3, 5, 10])
(.cond (.t 10)
.skip
(.exit 0)))
(.seq
(.block 1
(.seq
(.region (some [0, 1, 0, 7, 15, 31, 0, 127]) [
fa 13 1 2, ln 14 13, mv 15 5, ia 16 3 14 15, fa 17 1 16, ld 18 2 17, ld 19 2 3, ⟨some 20, .eqc 2 false (.t 18) (.t 19), none⟩] [2, 3, 5, 20])
(.cond (.t 20)
(.seq
(.region none [
⟨some 4, .mov (.c (.bool true)), none⟩] [4])
.ret)
.skip)))
(.region none [
mv 11 5, bc 12 .add 11 1, mv 5 12] [2, 3, 5]))))))
(.seq
(.region none [
⟨some 4, .mov (.c (.bool false)), none⟩] [4])
.ret))),
[.tmp 4]⟩
theorem x74_ok : ck x74 74 := by decide +kernel
/-- peloton/pelotonref09.Added -/
def x75 : XFunc := ⟨2,
(.seq
(.region none [
bx 2 0, bx 3 1,
⟨some 4, .alloc z1, none⟩,
ic 5 0, ic 6 0] [2, 3, 4])
(.seq
(.region none [
fa 16 3 2, ld 17 2 16, ld 18 2 3, p2 19 112 17 18, mv 15 19, ex 20 0 15, ex 21 1 15, ex 22 2 15, ⟨some 7, .alloc z7, none⟩, st 2 7 20,
mv 8 21, mv 9 22] [2, 3, 4, 7, 8, 9])
(.seq
(.seq
(.region none [
mv 23 9, bc 24 .neq 23 0] [2, 3, 4, 7, 8, 9, 24])
(.cond (.t 24)
(.seq
(.region none [
⟨some 25, .build z1 [], none⟩,
mv 26 9, st 11 4 25, ic 5 0, mv 6 26] [4, 5, 6])
.ret)
.skip))
(.seq
(.region none [
ld 27 11 2, ⟨some 28, .call .own 19 [(.t 27)], none⟩,
⟨some 10, .alloc z1, none⟩,
st 11 10 28] [2, 3, 4, 7, 8, 10])
(.seq
(.region none [
ld 29 2 7, fa 30 3 10, st 2 30 29] [2, 3, 4, 8, 10])
(.seq
(.region none [
fa 32 2 2, ld 33 1 32, ld 34 2 3, fa 35 0 2, ld 36 2 35, p3 37 108 33 34 36, mv 31 37, ex 38 0 31, ex 39 1 31,
⟨some 11, .alloc z8, none⟩, st 2 11 38, mv 12 39] [2, 4, 8, 10, 11, 12])
(.seq
(.seq
(.region none [
mv 40 12, ⟨some 41, .un .not (.t 40), none⟩] [2, 4, 8, 10, 11, 41])
(.cond (.t 41)
(.seq
(.region none [
ld 42 11 10, mv 43 8, st 11 4 42, mv 5 43, ic 6 0] [4, 5, 6])
.ret)
.skip))
(.seq
(.seq
(.region none [
fa 44 5 2, fa 45 0 44, ld 46 3 45, p1 47 110 46, ⟨some 48, .un .not (.t 47), none⟩] [2, 4, 8, 10, 11, 48])
(.cond (.t 48)
(.seq
(.region none [
⟨some 49, .build z1 [], none⟩,
st 11 4 49, ic 5 0, ic 6 18] [4, 5, 6])
.ret)
.skip))
(.seq
(.region none [
fa 51 5 2, ld 52 5 51, ld 53 2 11, mv 54 8, p3 55 111 52 53 54, mv 50 55, ex 56 0 50, ex 57 1 50,
⟨some 13, .alloc z2, none⟩, ⟨some 14, .alloc z8, none⟩,
st 5 13 56, st 2 14 57] [4, 8, 10, 13, 14])
(.seq
(.region none [
ld 58 5 13, fa 59 5 10, st 5 59 58] [4, 8, 10, 14])
(.seq
(.region none [
fa 60 10 10, ln 61 60, mv 62 8, ld 63 2 14, ⟨some 64, .build z5 [(0, 1, (.t 62)), (1, 2, (.t 63))], none⟩,
⟨some 65, .mkrow 3 1 z5 [(0, (.t 64))], none⟩, ap 66 3 61 65, fa 67 10 10, st 1 67 66] [4, 8, 10])
(.seq
(.region none [
ld 68 11 10, mv 69 8, st 11 4 68, mv 5 69, ic 6 0] [4, 5, 6])
.ret)))))))))))),
[.cell 4 (some 11), .tmp 5, .tmp 6]⟩
theorem x75_ok : ck x75 75 := by decide +kernel
/-- peloton/pelotonref06.Begin -/
def x76 : XFunc := ⟨1,
(.seq
(.region none [
⟨some 2, .alloc z4, none⟩] [0, 2])
(.seq
(.region (some [0, 1, 0, 4, 15, 0, 63]) [
mv 5 0, ⟨some 6, .mks 1 [.int .i64 0] (.t 5) (.t 5), none⟩, mv 7 0, ⟨some 8, .mks 1 [.bool false] (.t 7) (.t 7), none⟩,
⟨some 9, .build z4 [(0, 1, (.t 6)), (1, 1, (.t 8))], none⟩,
⟨some 3, .alloc z4, none⟩, st 3 3 9] [0, 2, 3])
(.seq
(.seq
(.region none [
mv 10 0, bc 11 .sub 10 1, mv 4 11] [2, 3, 4])
(.block 0
(.loop [(2, none), (3, none), (4, none), (3, some 3001)]
(.seq
(.seq
(.region none [
mv 12 4, bc 13 .geq 12 0] [2, 3, 4, 13])
(.cond (.t 13)
.skip
(.exit 0)))
(.seq
(.block 1
(.region none [
fa 16 2 3, ln 17 16, mv 18 4, ⟨some 19, .mkrow 1 1 [.int .i64 0] [(0, (.t 18))], none⟩, ap 20 1 17 19, fa 21 2 3, st 1 21 20] [2, 3, 4]))
(.region none [
mv 14 4, bc 15 .sub 14 1, mv 4 15] [2, 3, 4]))))))
(.seq
(.region none [
ld 22 3 3, st 3 2 22] [2])
.ret)))),
[.cell 2 (some 3)]⟩
theorem x76_ok : ck x76 76 := by decide +kernel
/-- peloton/pelotonref06.Twin -/
def x77 : XFunc := ⟨1,
(.seq
(.region none [
bx 1 0, ⟨some 2, .alloc z4, none⟩] [1, 2])
(.seq
(.region (some [0, 0, 2, 7, 0, 0, 32, 127, 0, 0, 512, 2047, 4095, 8191]) [
⟨some 3, .mkrow 1 0 [.int .i64 0] [], none⟩, fa 4 0 1, ln 5 4, ap 6 1 3 5, ⟨some 7, .mkrow 1 0 [.bool false] [], none⟩, fa 8 1 1, ln 9 8, ap 10 1 7 9,
⟨some 11, .mkrow 1 0 [.int .i64 0] [], none⟩, fa 12 2 1, ln 13 12, ap 14 1 11 13,
⟨some 15, .build z4 [(0, 1, (.t 6)), (1, 1, (.t 10)), (2, 1, (.t 14))], none⟩, st 3 2 15] [2])
.ret)),
[.cell 2 (some 3)]⟩
theorem x77_ok : ck x77 77 := by decide +kernel
/-- peloton/pelotonref07.Less -/
def x78 : XFunc := ⟨2,
(.seq
(.region none [
bx 2 0, bx 3 1, ⟨some 4, .mov (.c (.bool false)), none⟩] [2, 3])
(.seq
(.region none [
fa 6 0 2, ld 7 2 6, fa 8 0 3, ld 9 2 8, p2 10 113 7 9, mv 5 10] [2, 3, 5])
(.seq
(.region none [
mv 11 5, bc 12 .lss 11 0, mv 13 12, ⟨some 14, .mov (.t 5), (some (13, false))⟩, ⟨some 15, .bin .eql (.t 14) (.c (.int .i64 0)), (some (13, false))⟩,
⟨some 16, .mov (.t 15), (some (13, false))⟩, ⟨some 17, .fadr 2 (.t 2), (some (16, true))⟩, ⟨some 18, .load none (.t 17), (some (16, true))⟩,
⟨some 19, .fadr 2 (.t 3), (some (16, true))⟩, ⟨some 20, .load none (.t 19), (some (16, true))⟩, ⟨some 21, .bin .lss (.t 18) (.t 20), (some (16, true))⟩,
⟨some 22, .pick (.t 16) (.t 21) (.c (.bool false)), (some (13, false))⟩, por 23 13 22, mv 4 23] [4])
.ret))),
[.tmp 4]⟩
theorem x78_ok : ck x78 78 := by decide +kernel
/-- peloton/cartes.timed -/
def x79 : XFunc := ⟨2,
(.seq
(.region none [
bx 2 0, bx 3 1, ic 4 0] [2, 3])
(.seq
(.seq
(.region none [
ld 6 1 2, p1 7 61 6, mv 5 7] [3, 5])
(.seq
(.region none [
mv 8 5, bc 9 .neq 8 0] [3, 5, 9])
(.cond (.t 9)
(.seq
(.region none [
mv 10 5, mv 4 10] [4])
.ret)
.skip)))
(.seq
(.region none [
ld 11 2 3, p1 12 25 11, mv 4 12] [4])
.ret))),
[.tmp 4]⟩
theorem x79_ok : ck x79 79 := by decide +kernel
/-- peloton/course.Ahead -/
def x80 : XFunc := ⟨3,
(.seq
(.region none [
bx 3 0, bx 4 1, bx 5 2, ⟨some 6, .mov (.c (.bool false)), none⟩, ic 7 0] [3, 4, 5])
(.seq
(.seq
(.region none [
ld 9 3 3, ld 10 3 4, ld 11 2 5, p3 12 114 9 10 11, mv 8 12] [3, 4, 5, 8])
(.seq
(.region none [
mv 13 8, bc 14 .neq 13 0] [3, 4, 5, 8, 14])
(.cond (.t 14)
(.seq
(.region none [
mv 15 8, ⟨some 6, .mov (.c (.bool false)), none⟩, mv 7 15] [6, 7])
.ret)
.skip)))
(.seq
(.region none [
ld 16 3 3, ld 17 3 4, ld 18 2 5, p3 19 115 16 17 18, bc 20 .gtr 19 0, mv 6 20, ic 7 0] [6, 7])
.ret))),
[.tmp 6, .tmp 7]⟩
theorem x80_ok : ck x80 80 := by decide +kernel
/-- cmp.isNaN[int64] -/
def x81 : XFunc := ⟨1,
(.seq
(.region none [
⟨some 2, .mov (.c (.bool false)), none⟩] [0])
(.seq
(.region none [
mv 3 0, mv 4 0, bt 5 .neq 3 4, mv 2 5] [2])
.ret)),
[.tmp 2]⟩
theorem x81_ok : ck x81 81 := by decide +kernel
/-- cmp.Compare[uint64] -/
def x82 : XFunc := ⟨2,
(.seq
(.region none [
ic 4 0] [0, 1])
(.seq
(.region none [
mv 7 0, p1 8 116 7, mv 5 8] [0, 1, 5])
(.seq
(.region none [
mv 9 1, p1 10 116 9, mv 6 10] [0, 1, 5, 6])
(.seq
(.seq
(.region none [
mv 11 5] [0, 1, 6, 11])
(.cond (.t 11)
(.seq
(.seq
(.region none [
mv 12 6] [12])
(.cond (.t 12)
(.seq
(.region none [
ic 4 0] [4])
.ret)
.skip))
(.seq
(.region none [
ic 4 (-1)] [4])
.ret))
.skip))
(.seq
(.seq
(.region none [
mv 13 6] [0, 1, 13])
(.cond (.t 13)
(.seq
(.region none [
ic 4 1] [4])
.ret)
.skip))
(.seq
(.seq
(.region none [
mv 14 0, mv 15 1, bt 16 .lss 14 15] [0, 1, 16])
(.cond (.t 16)
(.seq
(.region none [
ic 4 (-1)] [4])
.ret)
.skip))
(.seq
(.seq
(.region none [
mv 17 0, mv 18 1, bt 19 .gtr 17 18] [19])
(.cond (.t 19)
(.seq
(.region none [
ic 4 1] [4])
.ret)
.skip))
(.seq
(.region none [
ic 4 0] [4])
.ret)))))))),
[.tmp 4]⟩
theorem x82_ok : ck x82 82 := by decide +kernel
/-- math/bits.Mul64 -/
def x83 : XFunc := ⟨2,
(.seq
(.region none [
⟨some 4, .mov (.c (.int .u64 0)), none⟩, ⟨some 5, .mov (.c (.int .u64 0)), none⟩] [0, 1])
(.seq
(.region none [
mv 14 0, ⟨some 15, .bin .and (.t 14) (.c (.int .u64 4294967295)), none⟩, mv 6 15] [0, 1, 6])
(.seq
(.region none [
mv 16 0, ⟨some 17, .bin .shr (.t 16) (.c (.int .u64 32)), none⟩, mv 7 17] [0, 1, 6, 7])
(.seq
(.region none [
mv 18 1, ⟨some 19, .bin .and (.t 18) (.c (.int .u64 4294967295)), none⟩, mv 8 19] [0, 1, 6, 7, 8])
(.seq
(.region none [
mv 20 1, ⟨some 21, .bin .shr (.t 20) (.c (.int .u64 32)), none⟩, mv 9 21] [0, 1, 6, 7, 8, 9])
(.seq
(.region none [
mv 22 6, mv 23 8, bt 24 .mul 22 23, mv 10 24] [0, 1, 6, 7, 8, 9, 10])
(.seq
(.region none [
mv 25 7, mv 26 8, bt 27 .mul 25 26, mv 28 10, ⟨some 29, .bin .shr (.t 28) (.c (.int .u64 32)), none⟩, bt 30 .add 27 29, mv 11 30] [0, 1, 6, 7, 9, 11])
(.seq
(.region none [
mv 31 11, ⟨some 32, .bin .and (.t 31) (.c (.int .u64 4294967295)), none⟩, mv 12 32] [0, 1, 6, 7, 9, 11, 12])
(.seq
(.region none [
mv 33 11, ⟨some 34, .bin .shr (.t 33) (.c (.int .u64 32)), none⟩, mv 13 34] [0, 1, 6, 7, 9, 12, 13])
(.seq
(.region none [
mv 35 12, mv 36 6, mv 37 9, bt 38 .mul 36 37, bt 39 .add 35 38, mv 12 39] [0, 1, 7, 9, 12, 13])
(.seq
(.region none [
mv 40 7, mv 41 9, bt 42 .mul 40 41, mv 43 13, bt 44 .add 42 43, mv 45 12, ⟨some 46, .bin .shr (.t 45) (.c (.int .u64 32)), none⟩, bt 47 .add 44 46,
mv 4 47] [0, 1, 4])
(.seq
(.region none [
mv 48 0, mv 49 1, bt 50 .mul 48 49, mv 5 50] [4, 5])
.ret)))))))))))),
[.tmp 4, .tmp 5]⟩
theorem x83_ok : ck x83 83 := by decide +kernel
/-- peloton/agenda.Top -/
def x84 : XFunc := ⟨1,
(.seq
(.region none [
bx 1 0, ⟨some 2, .alloc z3, none⟩, ic 3 0] [1, 2])
(.seq
(.seq
(.region none [
ld 5 5 1, p1 6 63 5, mv 4 6] [1, 2, 4])
(.seq
(.region none [
mv 7 4, bc 8 .neq 7 0] [1, 2, 4, 8])
(.cond (.t 8)
(.seq
(.region none [
⟨some 9, .build z3 [], none⟩, mv 10 4, st 5 2 9, mv 3 10] [2, 3])
.ret)
.skip)))
(.seq
(.seq
(.region none [
fa 11 3 1, ln 12 11, le 13 12, bc 14 .eql 13 0] [1, 2, 14])
(.cond (.t 14)
(.seq
(.region none [
⟨some 15, .build z3 [], none⟩, st 5 2 15, ic 3 42] [2, 3])
.ret)
.skip))
(.seq
(.region none [
fa 16 3 1, ln 17 16, ⟨some 18, .iadr 5 (.t 17) (.c (.int .i64 0)), none⟩, ld 19 5 18, st 5 2 19, ic 3 0] [2, 3])
.ret)))),
[.cell 2 (some 5), .tmp 3]⟩
theorem x84_ok : ck x84 84 := by decide +kernel
/-- peloton/cert.Remove -/
def x85 : XFunc := ⟨2,
(.seq
(.region none [
bx 2 0, ⟨some 4, .alloc z7, none⟩, ⟨some 5, .alloc z8, none⟩, ic 6 0] [1, 2, 4, 5])
(.seq
(.region none [
ld 10 2 2, mv 11 1, p2 12 117 10 11, mv 9 12, ex 13 0 9, ex 14 1 9, mv 7 13, mv 8 14] [2, 4, 5, 7, 8])
(.seq
(.seq
(.region none [
mv 15 8, bc 16 .neq 15 0] [2, 4, 5, 7, 8, 16])
(.cond (.t 16)
(.seq
(.region none [
⟨some 17, .build z7 [], none⟩, ⟨some 18, .build z8 [], none⟩, mv 19 8, st 2 4 17, st 2 5 18,
mv 6 19] [4, 5, 6])
.ret)
.skip))
(.seq
(.region (some [0, 1, 0, 4, 12, 0, 0, 64, 252, 511, 0, 1024, 0, 7168, 15360, 31744, 1023, 131071, 262143]) [
fa 20 0 2, ln 21 20, fa 22 1 2, ln 23 22, p1 24 92 23, mv 25 7, mv 26 7, bc 27 .add 26 1, ⟨some 28, .call .fp 118 [(.t 24), (.t 25), (.t 27)], none⟩,
⟨some 29, .build z7 [(0, 1, (.t 21)), (1, 1, (.t 28))], none⟩, fa 30 1 2, ln 31 30, mv 32 7, ia 33 3 31 32, fa 34 1 33, ld 35 2 34,
st 2 4 29, st 2 5 35, ic 6 0] [4, 5, 6])
.ret)))),
[.cell 4 (some 2), .cell 5 (some 2), .tmp 6]⟩
theorem x85_ok : ck x85 85 := by decide +kernel
/-- peloton/clock.place -/
def x86 : XFunc := ⟨2,
(.seq
(.region none [
ic 4 0, ⟨some 5, .mov (.c (.bool false)), none⟩] [0, 1])
(.seq
(.region none [
mv 6 0, mv 7 1, ⟨some 8, .call .pur 119 [(.t 6), (.t 7), (.c (.clo 120 [] []))], none⟩, ex 9 0 8, ex 10 1 8, mv 4 9, mv 5 10] [4, 5])
.ret)),
[.tmp 4, .tmp 5]⟩
theorem x86_ok : ck x86 86 := by decide +kernel
/-- peloton/agenda.Remove -/
def x87 : XFunc := ⟨2,
(.seq
(.region none [
bx 2 0, bx 3 1, ⟨some 4, .alloc z2, none⟩,
⟨some 5, .alloc z3, none⟩, ic 6 0] [2, 3, 4, 5])
(.seq
(.region none [
ld 10 5 2, ld 11 2 3, p2 12 122 10 11, mv 9 12, ex 13 0 9, ex 14 1 9, mv 7 13, mv 8 14] [2, 4, 5, 7, 8])
(.seq
(.seq
(.region none [
mv 15 8, bc 16 .neq 15 0] [2, 4, 5, 7, 8, 16])
(.cond (.t 16)
(.seq
(.region none [
⟨some 17, .build z2 [], none⟩,
⟨some 18, .build z3 [], none⟩, mv 19 8, st 5 4 17, st 5 5 18, mv 6 19] [4, 5, 6])
.ret)
.skip))
(.seq
(.region none [
ld 20 5 2, mv 21 7, p2 22 123 20 21, ex 23 0 22, ex 24 1 22, ex 25 2 22, st 5 4 23, st 5 5 24, mv 6 25] [4, 5, 6])
.ret)))),
[.cell 4 (some 5), .cell 5 (some 5), .tmp 6]⟩
theorem x87_ok : ck x87 87 := by decide +kernel
/-- slices.Delete[[]peloton/api.Due,peloton/api.Due] -/
def x88 : XFunc := ⟨3,
(.seq
(.region none [
⟨some 6, .mov (.c (.sl 3 true [])), none⟩] [0, 1, 2])
(.seq
(.region none [
mv 8 0, mv 9 1, mv 10 2, mv 11 0, le 12 11, ⟨some 13, .slc 3 (.t 8) (some (.t 9)) (some (.t 10)) (some (.t 12)), none⟩] [0, 1, 2])
(.seq
(.seq
(.region none [
mv 14 1, mv 15 2, bt 16 .eql 14 15] [0, 1, 2, 16])
(.cond (.t 16)
(.seq
(.region none [
mv 17 0, mv 6 17] [6])
.ret)
.skip))
(.seq
(.region none [
mv 18 0, le 19 18, mv 7 19] [0, 1, 2, 7])
(.seq
(.region (some [0, 0, 3, 0, 0, 24, 63, 127]) [
mv 20 0, mv 21 1, ⟨some 22, .slc 3 (.t 20) none (some (.t 21)) none, none⟩, mv 23 0, mv 24 2, ⟨some 25, .slc 3 (.t 23) (some (.t 24)) none none, none⟩,
ap 26 3 22 25, mv 0 26] [0, 7])
(.seq
(.region none [
mv 27 0, mv 28 0, le 29 28, mv 30 7, ⟨some 31, .slc 3 (.t 27) (some (.t 29)) (some (.t 30)) none, none⟩,
⟨none, .clear 3 z5 (.t 31), none⟩] [0])
(.seq
(.region none [
mv 32 0, mv 6 32] [6])
.ret))))))),
[.tmp 6]⟩
theorem x88_ok : ck x88 88 := by decide +kernel
/-- peloton/field.Find -/
def x89 : XFunc := ⟨2,
(.seq
(.region none [
bx 2 0, ⟨some 4, .alloc z5, none⟩, ic 5 0] [1, 2, 4])
(.seq
(.region none [
ld 9 1 2, mv 10 1, p2 11 124 9 10, mv 8 11, ex 12 0 8, ex 13 1 8, mv 6 12, mv 7 13] [2, 4, 6, 7])
(.seq
(.seq
(.region none [
mv 14 7, bc 15 .neq 14 0] [2, 4, 6, 7, 15])
(.cond (.t 15)
(.seq
(.region none [
⟨some 16, .build z5 [], none⟩, mv 17 7, st 3 4 16, mv 5 17] [4, 5])
.ret)
.skip))
(.seq
(.region none [
fa 18 0 2, ln 19 18, mv 20 6, ia 21 3 19 20, ld 22 3 21, st 3 4 22, ic 5 0] [4, 5])
.ret)))),
[.cell 4 (some 3), .tmp 5]⟩
theorem x89_ok : ck x89 89 := by decide +kernel
/-- peloton/kheap.renew -/
def x90 : XFunc := ⟨3,
(.seq
(.region none [
bx 3 0, bx 4 1,
⟨some 6, .alloc z1, none⟩,
ic 7 0] [2, 3, 4, 6])
(.seq
(.seq
(.region none [
fa 13 3 3, fa 14 1 13, ln 15 14, le 16 15, ic 17 0] [2, 3, 4, 6, 15, 16, 17])
(.block 0
(.loop [(2, none), (3, none), (4, none), (6, none), (15, none), (16, none), (17, none)]
(.seq
(.region none [
bt 18 .lss 17 16] [2, 3, 4, 6, 15, 16, 17, 18])
(.seq
(.cond (.t 18)
.skip
(.exit 0))
(.seq
(.block 1
(.seq
(.region none [
ia 19 3 15 17, ld 20 3 19, ⟨some 9, .alloc z5, none⟩, st 3 9 20] [2, 3, 4, 6, 9, 15, 16, 17])
(.seq
(.region none [
mv 21 2, fa 22 1 9, ld 23 2 22, p2 24 66 21 23, ⟨some 25, .un .not (.t 24), none⟩] [2, 3, 4, 6, 9, 15, 16, 17, 25])
(.cond (.t 25)
(.region none [
ld 27 11 3, fa 28 0 9, ln 29 28, p2 30 125 27 29, mv 26 30, ex 31 0 26, ex 32 1 26, st 11 3 31] [2, 3, 4, 6, 15, 16, 17])
.skip))))
(.region none [
bc 33 .add 17 1, mv 17 33] [2, 3, 4, 6, 15, 16, 17])))))))
(.seq
(.region none [
ic 10 0] [2, 3, 4, 6])
(.seq
(.seq
(.region none [
fa 34 2 3, fa 35 0 34, ln 36 35, fa 37 0 4, ln 38 37, p2 39 126 36 38, ⟨some 40, .un .not (.t 39), none⟩] [2, 3, 4, 6, 40])
(.cond (.t 40)
(.seq
(.region none [
ld 42 11 3, ld 43 1 4, p2 44 127 42 43, mv 41 44, ex 45 0 41, ex 46 1 41, st 11 3 45, mv 10 46] [2, 3, 6, 10])
(.seq
(.region none [
mv 47 10, bc 48 .neq 47 0] [2, 3, 6, 10, 48])
(.cond (.t 48)
(.seq
(.region none [
⟨some 49, .build z1 [], none⟩,
mv 50 10, st 11 6 49, mv 7 50] [6, 7])
.ret)
.skip)))
.skip))
(.seq
(.seq
(.region none [
mv 51 2, le 52 51, ic 53 0] [3, 6, 51, 52, 53])
(.block 2
(.loop [(3, none), (6, none), (51, none), (52, none), (53, none)]
(.seq
(.region none [
bt 54 .lss 53 52] [3, 6, 51, 52, 53, 54])
(.seq
(.cond (.t 54)
.skip
(.exit 2))
(.seq
(.block 3
(.seq
(.region none [
ia 55 2 51 53, ld 56 2 55, ⟨some 12, .alloc z8, none⟩, st 2 12 56] [3, 6, 12, 51, 52, 53])
(.seq
(.seq
(.region none [
fa 57 3 3, fa 58 1 57, ln 59 58, ⟨some 60, .mkf 128 [] [(.t 12)], none⟩, p2 61 67 59 60] [3, 6, 12, 51, 52, 53, 61])
(.cond (.t 61)
(.exit 3)
.skip))
(.seq
(.region none [
ld 63 11 3, ld 64 2 12, p2 65 129 63 64, mv 62 65, ex 66 0 62, ex 67 1 62, ex 68 2 62, st 11 3 66, mv 10 68] [3, 6, 10, 51, 52, 53])
(.seq
(.region none [
mv 69 10, bc 70 .neq 69 0] [3, 6, 10, 51, 52, 53, 70])
(.cond (.t 70)
(.seq
(.region none [
⟨some 71, .build z1 [], none⟩,
mv 72 10, st 11 6 71, mv 7 72] [6, 7])
.ret)
.skip))))))
(.region none [
bc 73 .add 53 1, mv 53 73] [3, 6, 51, 52, 53])))))))
(.seq
(.region none [
ld 74 11 3, st 11 6 74, ic 7 0] [6, 7])
.ret)))))),
[.cell 6 (some 11), .tmp 7]⟩
theorem x90_ok : ck x90 90 := by decide +kernel
end Go.Proofs.YtppeldaebnfmdaaGreat
