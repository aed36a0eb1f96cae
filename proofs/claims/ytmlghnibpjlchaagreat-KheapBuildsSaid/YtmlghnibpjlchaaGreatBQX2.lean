/- Functions of the seat as the logical machine runs them, and the look at each of them (2). Printed by a program. -/
import Derived.Test.YtmlghnibpjlchaaGreatBVm2
import Derived.Test.YtmlghnibpjlchaaGreatBQX1
import Derived.Test.YtmlghnibpjlchaaGreatProg
set_option maxRecDepth 100000
namespace Go.Proofs.YtmlghnibpjlchaaGreat
open Go.Vm
def aIg:aI:=⟨2,
(Sn [
bx 2 0,bx 3 1,
Al 4 z1,
ic 5 0] [2,3,4]
(Sn [
ld 14 11 2,p1 15 32 14,
Al 6 z1,
st 11 6 15] [2,3,4,6]
(Sn [
ld 16 1 3,p1 17 72 16,fa 18 2 6,st 1 18 17] [2,3,4,6]
(Sn [
fa 19 10 6,⟨none,.store 1 (.t 19) (.c (.sl 3 true [])),none⟩] [2,3,4,6]
(.seq
(Sn [
ic 7 0] [2,3,4,6,7]
(.block 0
(.loop [(2,none),(3,none),(4,none),(6,none),(7,none),(6,some 11003)]
(.seq
(Sn [
mv 20 7,fa 21 3 2,fa 22 1 21,ln 23 22,le 24 23,bt 25 .lss 20 24] [2,3,4,6,7,25]
(Cd 25
.skip
(.exit 0)))
(.seq
(.block 1
(Sn [
fa 28 3 2,fa 29 1 28,ln 30 29,mv 31 7,ia 32 3 30 31,ld 33 3 32,Al 8 z5,st 3 8 33] [2,3,4,6,7,8]
(Sn [
ld 34 11 2,fa 35 0 8,ln 36 35,p2 37 188 34 36,mv 9 37] [2,3,4,6,7,8,9]
(Sn [
ld 39 1 3,fa 40 1 8,ld 41 2 40,fa 42 0 2,ld 43 2 42,p3 44 124 39 41 43,mv 38 44,ex 45 0 38,ex 46 1 38,Al 10 z8,st 2 10 45,
mv 11 46] [2,3,4,6,7,8,9,10,11]
(.seq
(Sn [
mv 47 11,mv 48 47,Gt 48 (mv 49 9),Gt 48 (bc 50 .geq 49 0),rP 51 48 50] [2,3,4,6,7,8,9,10,11,51]
(Cd 51
(Ss [0,1,0,4,0,28,60,124,0,511,1023,2047] [
fa 52 5 6,ld 53 5 52,fa 54 10 2,ln 55 54,mv 56 9,ia 57 3 55 56,fa 58 1 57,ld 59 2 58,ld 60 2 10,p3 61 190 53 59 60,fa 62 5 6,
st 5 62 61] [2,3,4,6,7,8,9,10,11]
(Rs [0,1,0,4,0,28,60,124,255,511,1023] [
fa 63 10 6,ln 64 63,fa 65 10 2,ln 66 65,mv 67 9,ia 68 3 66 67,ld 69 3 68,
⟨some 70,.mkrow 3 1 z5 [(0,(.t 69))],none⟩,ap 71 3 64 70,fa 72 10 6,st 1 72 71] [2,3,4,6,7,8,9,10,11]))
.skip))
(.seq
(Sn [
mv 73 11,No 74 73,mv 75 74,Gt 75 (mv 76 9),Gt 75 (bc 77 .geq 76 0),rP 78 75 77] [2,3,4,6,7,8,9,10,11,78]
(Cd 78
(Rs [0,1,0,4,0,28,60,124,255,511,1023] [
fa 79 5 6,ld 80 5 79,fa 81 10 2,ln 82 81,mv 83 9,ia 84 3 82 83,fa 85 1 84,ld 86 2 85,p2 87 189 80 86,fa 88 5 6,
st 5 88 87] [2,3,4,6,7,8,9,10,11])
.skip))
(.seq
(Sn [
mv 89 11,No 90 89,mv 91 90,Gf 91 (mv 92 9),Gf 91 (bc 93 .geq 92 0),fH 94 91 93] [2,3,4,6,7,8,10,94]
(Cd 94
(.exit 1)
.skip))
(.seq
(Sn [
fa 95 5 6,fa 96 0 95,ld 97 3 96,p1 98 191 97,No 99 98] [2,3,4,6,7,8,10,99]
(Cd 99
(Sn [
Bu 100 z1 [],
st 11 4 100,ic 5 18] [4,5]
.ret)
.skip))
(Sn [
fa 102 5 6,ld 103 5 102,ld 104 2 10,fa 105 0 8,ln 106 105,p3 107 192 103 104 106,mv 101 107,ex 108 0 101,ex 109 1 101,
Al 12 z2,Al 13 z8,st 5 12 108,
st 2 13 109] [2,3,4,6,7,8,12,13]
(Sn [
ld 110 5 12,fa 111 5 6,st 5 111 110] [2,3,4,6,7,8,13]
(Rn [
fa 112 10 6,ln 113 112,fa 114 0 8,ln 115 114,ld 116 2 13,Bu 117 z5 [(0,1,(.t 115)),(1,2,(.t 116))],
⟨some 118,.mkrow 3 1 z5 [(0,(.t 117))],none⟩,ap 119 3 113 118,fa 120 10 6,st 1 120 119] [2,3,4,6,7])))))))))))
(Rn [
mv 26 7,bc 27 .add 26 1,mv 7 27] [2,3,4,6,7]))))))
(Sn [
ld 121 11 6,st 11 4 121,ic 5 0] [4,5]
.ret)))))),
[.cell 4 (some 11),.tmp 5]⟩
theorem aAK:ck aIg 148:=by decide+kernel
def aIh:aI:=⟨2,
(Sn [
bx 2 0,bx 3 1,
Al 4 z1,
ic 5 0,ic 6 0] [2,3,4]
(Sn [
fa 16 3 2,ld 17 2 16,ld 18 2 3,p2 19 193 17 18,mv 15 19,ex 20 0 15,ex 21 1 15,ex 22 2 15,Al 7 z7,st 2 7 20,mv 8 21,
mv 9 22] [2,3,4,7,8,9]
(.seq
(Sn [
mv 23 9,bc 24 .neq 23 0] [2,3,4,7,8,9,24]
(Cd 24
(Sn [
Bu 25 z1 [],
mv 26 9,st 11 4 25,ic 5 0,mv 6 26] [4,5,6]
.ret)
.skip))
(Sn [
ld 27 11 2,⟨some 28,.call .own 32 [(.t 27)],none⟩,
Al 10 z1,
st 11 10 28] [2,3,4,7,8,10]
(Sn [
ld 29 2 7,fa 30 3 10,st 2 30 29] [2,3,4,8,10]
(Sn [
fa 32 2 2,ld 33 1 32,ld 34 2 3,fa 35 0 2,ld 36 2 35,p3 37 124 33 34 36,mv 31 37,ex 38 0 31,ex 39 1 31,Al 11 z8,st 2 11 38,
mv 12 39] [2,4,8,10,11,12]
(.seq
(Sn [
mv 40 12,No 41 40] [2,4,8,10,11,41]
(Cd 41
(Sn [
ld 42 11 10,mv 43 8,st 11 4 42,mv 5 43,ic 6 0] [4,5,6]
.ret)
.skip))
(.seq
(Sn [
fa 44 5 2,fa 45 0 44,ld 46 3 45,p1 47 191 46,No 48 47] [2,4,8,10,11,48]
(Cd 48
(Sn [
Bu 49 z1 [],
st 11 4 49,ic 5 0,ic 6 18] [4,5,6]
.ret)
.skip))
(Sn [
fa 51 5 2,ld 52 5 51,ld 53 2 11,mv 54 8,p3 55 192 52 53 54,mv 50 55,ex 56 0 50,ex 57 1 50,
Al 13 z2,Al 14 z8,st 5 13 56,st 2 14 57] [4,8,10,13,14]
(Sn [
ld 58 5 13,fa 59 5 10,st 5 59 58] [4,8,10,14]
(Sn [
fa 60 10 10,ln 61 60,mv 62 8,ld 63 2 14,Bu 64 z5 [(0,1,(.t 62)),(1,2,(.t 63))],
⟨some 65,.mkrow 3 1 z5 [(0,(.t 64))],none⟩,ap 66 3 61 65,fa 67 10 10,st 1 67 66] [4,8,10]
(Sn [
ld 68 11 10,mv 69 8,st 11 4 68,mv 5 69,ic 6 0] [4,5,6]
.ret)))))))))))),
[.cell 4 (some 11),.tmp 5,.tmp 6]⟩
theorem aAL:ck aIh 149:=by decide+kernel
def aIi:aI:=⟨2,
(Sn [
bx 2 0,bx 3 1,Fl 4] [2,3]
(Sn [
fa 5 0 2,ln 6 5,fa 7 0 3,ln 8 7,p2 9 151 6 8,mv 10 9,Gt 10 (fa 11 1 2),Gt 10 (ln 12 11),Gt 10 (fa 13 1 3),Gt 10 (ln 14 13),Gt 10 (p2 15 194 12 14),
rP 16 10 15,mv 17 16,Gt 17 (fa 18 2 2),Gt 17 (ln 19 18),Gt 17 (fa 20 2 3),Gt 17 (ln 21 20),Gt 17 (p2 22 151 19 21),rP 23 17 22,mv 4 23] [4]
.ret)),
[.tmp 4]⟩
theorem aAM:ck aIi 150:=by decide+kernel
def aIj:aI:=⟨2,
(Sn [
Fl 4] [0,1]
(.seq
(Sn [
mv 6 0,le 7 6,mv 8 1,le 9 8,bt 10 .neq 7 9] [0,1,10]
(Cd 10
(Sn [
Fl 4] [4]
.ret)
.skip))
(.seq
(Sn [
ic 5 0] [0,1,5]
(.block 0
(.loop [(0,none),(1,none),(5,none)]
(.seq
(Sn [
mv 11 5,mv 12 0,le 13 12,bt 14 .lss 11 13] [0,1,5,14]
(Cd 14
.skip
(.exit 0)))
(.seq
(.block 1
(Ss [0,0,3,7,0,0,48,112,255] [
mv 17 0,mv 18 5,ia 19 1 17 18,ln 20 19,mv 21 1,mv 22 5,ia 23 1 21 22,ln 24 23,bt 25 .neq 20 24] [0,1,5,25]
(Cd 25
(Sn [
Fl 4] [4]
.ret)
.skip)))
(Rn [
mv 15 5,bc 16 .add 15 1,mv 5 16] [0,1,5]))))))
(Sn [
Tr 4] [4]
.ret)))),
[.tmp 4]⟩
theorem aAN:ck aIj 151:=by decide+kernel
def aIk:aI:=⟨3,
(Sn [
bx 3 0,bx 4 1,bx 5 2,ic 6 0] [3,4,5]
(.seq
(Ss [0,1,0,7,0,31,63,127] [
ld 8 3 3,p1 9 128 8,ld 10 3 4,p1 11 128 10,ld 12 2 5,p1 13 33 12,⟨some 14,.mm true (.t 9) [(.t 11),(.t 13)],none⟩,mv 7 14] [3,4,7]
(Sn [
mv 15 7,bc 16 .neq 15 0] [3,4,7,16]
(Cd 16
(Sn [
mv 17 7,mv 6 17] [6]
.ret)
.skip)))
(.seq
(Sn [
fa 18 0 3,ln 19 18,fa 20 0 4,ln 21 20,bt 22 .eql 19 21] [22]
(Cd 22
(Sn [
ic 6 2] [6]
.ret)
.skip))
(Sn [
ic 6 0] [6]
.ret)))),
[.tmp 6]⟩
theorem aAO:ck aIk 152:=by decide+kernel
def aIl:aI:=⟨3,
(Sn [
bx 3 0,bx 4 1,bx 5 2,ic 6 0] [3,4,5]
(Sn [
fa 8 1 3,ln 9 8,fa 10 1 4,ln 11 10,bt 12 .sub 9 11,fa 13 1 5,ln 14 13,Bu 15 z8 [(0,1,(.t 12)),(1,1,(.t 14))],fa 16 2 3,
ln 17 16,fa 18 2 4,ln 19 18,bt 20 .sub 17 19,fa 21 0 5,ln 22 21,Bu 23 z8 [(0,1,(.t 20)),(1,1,(.t 22))],
Bu 24 [.int .i64 0,.int .i64 0,.int .i64 0,.int .i64 0] [(0,2,(.t 15)),(2,2,(.t 23))],p1 25 195 24,Al 7 z9,
st 2 7 25] [3,4,7]
(.seq
(Sn [
ld 26 2 7,Bu 27 z9 [],⟨some 28,.eqc 2 true (.t 26) (.t 27),none⟩] [3,4,7,28]
(Cd 28
(.seq
(Sn [
fa 29 0 7,ln 30 29,bc 31 .lss 30 0] [31]
(Cd 31
(Sn [
ic 6 (-1)] [6]
.ret)
.skip))
(Sn [
ic 6 1] [6]
.ret))
.skip))
(Ss [0,1,0,4,15,0,32,0,128,511,1023,2047,4095] [
fa 32 2 3,ln 33 32,fa 34 2 4,ln 35 34,p2 36 78 33 35,fa 37 0 4,ln 38 37,fa 39 0 3,ln 40 39,p2 41 180 38 40,
⟨some 42,.mkrow 1 2 [.int .i64 0] [(0,(.t 36)),(1,(.t 41))],none⟩,p1 43 196 42,mv 6 43] [6]
.ret)))),
[.tmp 6]⟩
theorem aAP:ck aIl 153:=by decide+kernel
def aIm:aI:=⟨1,
(Sn [
Al 2 z4,ic 3 0] [0,2]
(.seq
(Sn [
mv 6 0,bc 7 .lss 6 1,mv 8 7,Gf 8 (mv 9 0),Gf 8 (bc 10 .gtr 9 200),fH 11 8 10] [0,2,11]
(Cd 11
(Sn [
Bu 12 z4 [],st 3 2 12,ic 3 2] [2,3]
.ret)
.skip))
(Ss [0,1,0,4,0,16,63,0,255] [
mv 13 0,⟨some 14,.mks 1 [.int .i64 0] (.t 13) (.t 13),none⟩,mv 15 0,⟨some 16,.mks 1 [.bool false] (.t 15) (.t 15),none⟩,mv 17 0,
⟨some 18,.mks 1 [.int .i64 0] (.t 17) (.t 17),none⟩,Bu 19 z4 [(0,1,(.t 14)),(1,1,(.t 16)),(2,1,(.t 18))],
Al 4 z4,st 3 4 19] [0,2,4]
(.seq
(Sn [
mv 20 0,ic 21 0] [0,2,4,20,21]
(.block 0
(.loop [(0,none),(2,none),(4,none),(20,none),(21,none)]
(Sn [
bt 22 .lss 21 20] [0,2,4,20,21,22]
(.seq
(Cd 22
.skip
(.exit 0))
(.seq
(.block 1
(Sn [
mv 23 21,mv 5 23] [0,2,4,5,20,21]
(Rn [
fa 24 2 4,ln 25 24,mv 26 5,mv 27 0,bc 28 .sub 27 1,mv 29 5,bt 30 .sub 28 29,ia 31 1 25 26,st 1 31 30] [0,2,4,20,21])))
(Rn [
bc 32 .add 21 1,mv 21 32] [0,2,4,20,21])))))))
(Sn [
ld 33 3 4,st 3 2 33,ic 3 0] [2,3]
.ret))))),
[.cell 2 (some 3),.tmp 3]⟩
theorem aAQ:ck aIm 155:=by decide+kernel
def aIn:aI:=⟨2,
(Sn [
⟨some 4,.mov (.c (.sl 1 true [])),none⟩] [0,1]
(.seq
(Sn [
mv 9 1,bc 10 .lss 9 0] [0,1,10]
(Cd 10
(Rn [
⟨some 11,.bad,none⟩,⟨none,.bad,none⟩] [0,1])
.skip))
(Sn [
mv 13 0,le 14 13,⟨some 15,.conv .u64 (.t 14),none⟩,mv 16 1,⟨some 17,.conv .u64 (.t 16),none⟩,p2 18 197 15 17,mv 12 18,ex 19 0 12,ex 20 1 12,
mv 5 19,mv 6 20] [0,5,6]
(.seq
(Sn [
mv 21 5,⟨some 22,.bin .gtr (.t 21) (.c (.int .u64 0)),none⟩,mv 23 22,Gf 23 (mv 24 6),
Gf 23 (⟨some 25,.bin .gtr (.t 24) (.c (.int .u64 9223372036854775807)),none⟩),fH 26 23 25] [0,6,26]
(Cd 26
(Rn [
⟨some 27,.bad,none⟩,⟨none,.bad,none⟩] [0,6])
.skip))
(Sn [
mv 28 6,⟨some 29,.conv .i64 (.t 28),none⟩,⟨some 30,.mks 1 [.int .i64 0] (.t 29) (.t 29),none⟩,mv 7 30] [0,7]
(Sn [
mv 31 7,mv 32 0,⟨some 33,.copy 1 (.t 31) (.t 32),none⟩,mv 8 33] [7,8]
(.seq
(.block 0
(.loop [(7,none),(8,none)]
(.seq
(Sn [
mv 34 8,mv 35 7,le 36 35,bt 37 .lss 34 36] [7,8,37]
(Cd 37
.skip
(.exit 0)))
(.block 1
(Rs [0,0,0,6,0,0,48,126,255,511] [
mv 38 8,mv 39 7,mv 40 8,⟨some 41,.slc 1 (.t 39) (some (.t 40)) none none,none⟩,mv 42 7,mv 43 8,⟨some 44,.slc 1 (.t 42) none (some (.t 43)) none,none⟩,
⟨some 45,.copy 1 (.t 41) (.t 44),none⟩,bt 46 .add 38 45,mv 8 46] [7,8])))))
(Sn [
mv 47 7,mv 4 47] [4]
.ret)))))))),
[.tmp 4]⟩
theorem aAR:ck aIn 156:=by decide+kernel
def aIo:aI:=⟨2,
(Sn [
bx 2 0,Al 4 z5] [1,2,4]
(Sn [
fa 8 0 2,ln 9 8,mv 10 1,⟨some 11,.call .pur 178 [(.t 9),(.t 10),(.c (.clo 198 [] []))],none⟩,mv 7 11,ex 12 0 7,ex 13 1 7,mv 5 12,
mv 6 13] [2,4,5,6]
(.seq
(Sn [
mv 14 6,No 15 14] [2,4,5,15]
(Cd 15
(Sn [
Bu 16 z5 [(0,1,(.c (.int .i64 (-1))))],st 3 4 16] [4]
.ret)
.skip))
(Sn [
fa 17 0 2,ln 18 17,mv 19 5,ia 20 3 18 19,ld 21 3 20,st 3 4 21] [4]
.ret)))),
[.cell 4 (some 3)]⟩
theorem aAS:ck aIo 157:=by decide+kernel
def aIp:aI:=⟨2,
(Sn [
ic 4 0,Fl 5] [0,1]
(Sn [
mv 6 0,mv 7 1,⟨some 8,.call .pur 199 [(.t 6),(.t 7),(.c (.clo 200 [] []))],none⟩,ex 9 0 8,ex 10 1 8,mv 4 9,mv 5 10] [4,5]
.ret)),
[.tmp 4,.tmp 5]⟩
theorem aAT:ck aIp 158:=by decide+kernel
def aIq:aI:=⟨3,
(Sn [
bx 3 0,bx 4 1,bx 5 2,Al 6 z2,ic 7 0] [3,4,5,6]
(.seq
(Ss [0,1,0,7,15,31] [
ld 13 5 3,p1 14 118 13,ld 15 2 5,p1 16 33 15,⟨some 17,.mm true (.t 14) [(.t 16)],none⟩,mv 8 17] [3,4,5,6,8]
(Sn [
mv 18 8,bc 19 .neq 18 0] [3,4,5,6,8,19]
(Cd 19
(Sn [
Bu 20 z2 [],mv 21 8,st 5 6 20,mv 7 21] [6,7]
.ret)
.skip)))
(Sn [
ld 23 5 3,ld 24 2 4,p2 25 201 23 24,mv 22 25,ex 26 0 22,ex 27 1 22,mv 9 26,mv 10 27] [3,5,6,9,10]
(.seq
(Sn [
mv 28 10,bc 29 .neq 28 0] [3,5,6,9,10,29]
(Cd 29
(Sn [
Bu 30 z2 [],mv 31 10,st 5 6 30,mv 7 31] [6,7]
.ret)
.skip))
(Sn [
ld 32 5 3,⟨some 33,.call .shr 202 [(.t 32)],none⟩,Al 11 z2,
st 5 11 33] [5,6,9,11]
(Sn [
fa 34 3 11,ln 35 34,mv 36 9,ia 37 5 35 36,ld 38 5 37,Al 12 z3,st 5 12 38] [5,6,9,11,12]
(Sn [
ld 39 2 5,fa 40 0 12,st 2 40 39] [6,9,11,12]
(Sn [
ld 41 5 11,mv 42 9,ld 43 5 12,⟨some 44,.call .fp 203 [(.t 41),(.t 42),(.t 43)],none⟩] [6,11]
(Sn [
ld 45 5 11,st 5 6 45,ic 7 0] [6,7]
.ret))))))))),
[.cell 6 (some 5),.tmp 7]⟩
theorem aAU:ck aIq 159:=by decide+kernel
def aIr:aI:=⟨3,
(Sn [
bx 3 0,bx 4 1,bx 5 2,Al 6 z2,Al 7 z8,
ic 8 0] [3,4,5,6,7]
(.seq
(Ss [0,1,0,7,15,31] [
ld 15 5 3,p1 16 118 15,ld 17 2 4,p1 18 33 17,⟨some 19,.mm true (.t 16) [(.t 18)],none⟩,mv 9 19] [3,4,5,6,7,9]
(Sn [
mv 20 9,bc 21 .neq 20 0] [3,4,5,6,7,9,21]
(Cd 21
(Sn [
Bu 22 z2 [],Bu 23 z8 [],mv 24 9,st 5 6 22,st 2 7 23,
mv 8 24] [6,7,8]
.ret)
.skip)))
(.seq
(Sn [
ln 25 5,bc 26 .lss 25 0,mv 27 26,Gf 27 (ln 28 5),Gf 27 (bc 29 .gtr 28 1000000),fH 30 27 29] [3,4,5,6,7,30]
(Cd 30
(Sn [
Bu 31 z2 [],Bu 32 z8 [],st 5 6 31,st 2 7 32,
ic 8 2] [6,7,8]
.ret)
.skip))
(.seq
(Sn [
fa 33 3 3,ln 34 33,⟨some 35,.mkf 205 [] [(.t 5)],none⟩,p2 36 204 34 35] [3,4,5,6,7,36]
(Cd 36
(Sn [
Bu 37 z2 [],Bu 38 z8 [],st 5 6 37,st 2 7 38,
ic 8 14] [6,7,8]
.ret)
.skip))
(Sn [
fa 40 0 3,ld 41 3 40,p1 42 206 41,mv 39 42,ex 43 0 39,ex 44 1 39,ex 45 2 39,Al 10 z4,
Al 11 z8,st 3 10 43,st 2 11 44,mv 12 45] [3,4,5,6,7,10,11,12]
(.seq
(Sn [
mv 46 12,bc 47 .neq 46 0] [3,4,5,6,7,10,11,12,47]
(Cd 47
(Sn [
Bu 48 z2 [],Bu 49 z8 [],mv 50 12,st 5 6 48,st 2 7 49,
mv 8 50] [6,7,8]
.ret)
.skip))
(Sn [
ld 51 5 3,⟨some 52,.call .shr 202 [(.t 51)],none⟩,Al 13 z2,
st 5 13 52] [4,5,6,7,10,11,13]
(Sn [
ld 53 2 4,ln 54 5,ld 55 2 11,Bu 56 z3 [(0,2,(.t 53)),(2,1,(.t 54)),(3,2,(.t 55))],
Al 14 z3,st 5 14 56] [6,7,10,11,13,14]
(Ss [0,0,2,0,8,30,7,127,255,511] [
ld 57 3 10,fa 58 3 13,ln 59 58,ld 60 5 14,⟨some 61,.mkrow 5 1 z3 [(0,(.t 60))],none⟩,
ap 62 5 59 61,fa 63 0 13,st 3 63 57,fa 64 3 13,st 1 64 62] [6,7,11,13,14]
(Sn [
ld 65 5 13,fa 66 3 13,ln 67 66,le 68 67,bc 69 .sub 68 1,ld 70 5 14,⟨some 71,.call .fp 203 [(.t 65),(.t 69),(.t 70)],none⟩] [6,7,11,13]
(Ss [0,0,1,7,15] [
ld 72 5 13,ld 73 2 11,st 5 6 72,st 2 7 73,ic 8 0] [6,7,8]
.ret))))))))))),
[.cell 6 (some 5),.cell 7 (some 2),.tmp 8]⟩
theorem aAV:ck aIr 160:=by decide+kernel
def aIs:aI:=⟨2,
(Sn [
bx 2 0,bx 3 1,Al 4 z2,
Al 5 z3,ic 6 0] [2,3,4,5]
(Sn [
ld 10 5 2,ld 11 2 3,p2 12 201 10 11,mv 9 12,ex 13 0 9,ex 14 1 9,mv 7 13,mv 8 14] [2,4,5,7,8]
(.seq
(Sn [
mv 15 8,bc 16 .neq 15 0] [2,4,5,7,8,16]
(Cd 16
(Sn [
Bu 17 z2 [],
Bu 18 z3 [],mv 19 8,st 5 4 17,st 5 5 18,mv 6 19] [4,5,6]
.ret)
.skip))
(Sn [
ld 20 5 2,mv 21 7,p2 22 207 20 21,ex 23 0 22,ex 24 1 22,ex 25 2 22,st 5 4 23,st 5 5 24,mv 6 25] [4,5,6]
.ret)))),
[.cell 4 (some 5),.cell 5 (some 5),.tmp 6]⟩
theorem aAW:ck aIs 161:=by decide+kernel
def aIt:aI:=⟨2,
(Sn [
ic 4 0] [0,1]
(.seq
(Sn [
mv 6 0,le 7 6,ic 8 0] [0,1,7,8]
(.block 0
(.loop [(0,none),(1,none),(7,none),(8,none)]
(Sn [
bt 9 .lss 8 7] [0,1,7,8,9]
(.seq
(Cd 9
.skip
(.exit 0))
(.seq
(.block 1
(Sn [
mv 10 8,mv 5 10] [0,1,5,7,8]
(Sn [
mv 11 1,mv 12 0,mv 13 5,ia 14 3 12 13,ld 15 3 14,⟨some 16,.callv (.t 11) [(.t 15)],none⟩] [0,1,5,7,8,16]
(Cd 16
(Sn [
mv 17 5,mv 4 17] [4]
.ret)
.skip))))
(Rn [
bc 18 .add 8 1,mv 8 18] [0,1,7,8])))))))
(Sn [
ic 4 (-1)] [4]
.ret))),
[.tmp 4]⟩
theorem aAX:ck aIt 162:=by decide+kernel
def aIu:aI:=⟨1,
(Sn [
Al 2 z1,
ic 3 0,ic 4 0] [0,2]
(Sn [
Bu 5 z1 [],
mv 6 0,st 11 2 5,ic 3 0,mv 4 6] [2,3,4]
.ret)),
[.cell 2 (some 11),.tmp 3,.tmp 4]⟩
theorem aAY:ck aIu 163:=by decide+kernel
def aIv:aI:=⟨2,
(Sn [
bx 2 0,bx 3 1,Al 4 z7,ic 5 0,ic 6 0] [2,3,4]
(.seq
(Sn [
ld 9 2 2,p1 10 117 9,mv 7 10] [2,3,4,7]
(Sn [
mv 11 7,bc 12 .neq 11 0] [2,3,4,7,12]
(Cd 12
(Sn [
Bu 13 z7 [],mv 14 7,st 2 4 13,ic 5 0,mv 6 14] [4,5,6]
.ret)
.skip)))
(.seq
(Sn [
ld 15 2 3,p1 16 166 15,No 17 16] [2,3,4,17]
(Cd 17
(Sn [
Bu 18 z7 [],st 2 4 18,ic 5 0,ic 6 8] [4,5,6]
.ret)
.skip))
(.seq
(Sn [
fa 19 1 2,ln 20 19,⟨some 21,.mkf 208 [] [(.t 3)],none⟩,p2 22 109 20 21] [2,3,4,22]
(Cd 22
(Sn [
Bu 23 z7 [],st 2 4 23,ic 5 0,ic 6 14] [4,5,6]
.ret)
.skip))
(.seq
(Sn [
fa 24 1 2,ln 25 24,le 26 25,bc 27 .eql 26 200,mv 28 27,Gf 28 (fa 29 0 2),Gf 28 (ln 30 29),Gf 28 (bc 31 .eql 30 1000000),fH 32 28 31] [2,3,4,32]
(Cd 32
(Sn [
Bu 33 z7 [],st 2 4 33,ic 5 0,ic 6 18] [4,5,6]
.ret)
.skip))
(Ss [0,1,3,0,8,0,56,120,255,511] [
fa 34 1 2,ln 35 34,p1 36 138 35,fa 37 0 2,ln 38 37,ld 39 2 3,Bu 40 z5 [(0,1,(.t 38)),(1,2,(.t 39))],
⟨some 41,.mkrow 3 1 z5 [(0,(.t 40))],none⟩,ap 42 3 36 41,mv 8 42] [2,4,8]
(Ss [0,1,3,0,15,0,32,31,255,511] [
fa 43 0 2,ln 44 43,bc 45 .add 44 1,mv 46 8,Bu 47 z7 [(0,1,(.t 45)),(1,1,(.t 46))],fa 48 0 2,ln 49 48,st 2 4 47,mv 5 49,
ic 6 0] [4,5,6]
.ret))))))),
[.cell 4 (some 2),.tmp 5,.tmp 6]⟩
theorem aAZ:ck aIv 164:=by decide+kernel
def aIw:aI:=⟨1,
(Sn [
Al 2 z2] [0,2]
(Sn [
mv 5 0,p1 6 209 5,Bu 7 z2 [(0,3,(.t 6))],
Al 3 z2,st 5 3 7] [0,2,3]
(.seq
(Sn [
ic 4 0] [0,2,3,4]
(.block 0
(.loop [(0,none),(2,none),(3,none),(4,none),(3,some 5001)]
(.seq
(Sn [
mv 8 4,mv 9 0,bt 10 .lss 8 9] [0,2,3,4,10]
(Cd 10
.skip
(.exit 0)))
(.seq
(.block 1
(Rn [
fa 13 4 3,ln 14 13,⟨some 15,.mkrow 1 1 [.int .i64 0] [(0,(.c (.int .i64 (-1))))],none⟩,ap 16 1 14 15,fa 17 4 3,st 1 17 16] [0,2,3,4]))
(Rn [
mv 11 4,bc 12 .add 11 1,mv 4 12] [0,2,3,4]))))))
(Sn [
ld 18 5 3,st 5 2 18] [2]
.ret)))),
[.cell 2 (some 5)]⟩
theorem aA0:ck aIw 165:=by decide+kernel
def aIx:aI:=⟨1,
(Sn [
bx 1 0,Fl 2] [1]
(Sn [
fa 3 0 1,ln 4 3,fa 5 1 1,ln 6 5,⟨some 7,.mm false (.t 4) [(.t 6)],none⟩,bc 8 .geq 7 0,mv 9 8,Gt 9 (fa 10 0 1),Gt 9 (ln 11 10),Gt 9 (fa 12 1 1),
Gt 9 (ln 13 12),Gt 9 (⟨some 14,.mm true (.t 11) [(.t 13)],none⟩),Gt 9 (bc 15 .leq 14 65535),rP 16 9 15,mv 17 16,Gt 17 (fa 18 0 1),Gt 17 (ln 19 18),
Gt 17 (fa 20 1 1),Gt 17 (ln 21 20),Gt 17 (bt 22 .neq 19 21),rP 23 17 22,mv 2 23] [2]
.ret)),
[.tmp 2]⟩
theorem aA1:ck aIx 166:=by decide+kernel
def aIy:aI:=⟨1,
(Sn [
bx 1 0,ic 2 0] [1]
(Sn [
fa 8 0 1,ln 9 8,le 10 9,Al 3 [.int .i64 0],st 1 3 10] [1,3]
(.seq
(Sn [
ln 11 3,bc 12 .lss 11 1,mv 13 12,Gf 13 (ln 14 3),Gf 13 (bc 15 .gtr 14 200),fH 16 13 15,mv 17 16,Gf 17 (fa 18 1 1),Gf 17 (ln 19 18),Gf 17 (le 20 19),
Gf 17 (ln 21 3),Gf 17 (bt 22 .neq 20 21),fH 23 17 22] [1,3,23]
(Cd 23
(Sn [
ic 2 8] [2]
.ret)
.skip))
(Sn [
fa 24 1 1,ln 25 24,p1 26 141 25,Al 4 [.sl 1 true []],st 1 4 26] [1,3,4]
(Sn [
fa 27 2 1,ln 28 27,⟨some 29,.mkf 211 [] [(.t 3),(.t 4)],none⟩,⟨some 30,.call .shr 210 [(.t 28),(.t 29)],none⟩,mv 5 30] [1,4,5]
(.seq
(Sn [
mv 31 5,mv 32 31,Gf 32 (ln 33 4),Gf 32 (⟨some 34,.call .pur 212 [(.t 33),(.c (.bool false))],none⟩),fH 35 32 34] [1,35]
(Cd 35
(Sn [
ic 2 8] [2]
.ret)
.skip))
(.seq
(Sn [
fa 36 0 1,ln 37 36,le 38 37,ic 39 0] [1,37,38,39]
(.block 0
(.loop [(1,none),(37,none),(38,none),(39,none)]
(Sn [
bt 40 .lss 39 38] [1,37,38,39,40]
(.seq
(Cd 40
.skip
(.exit 0))
(.seq
(.block 1
(Sn [
mv 41 39,ia 42 1 37 39,ln 43 42,mv 6 41,mv 7 43] [1,6,7,37,38,39]
(Sn [
mv 44 7,bc 45 .lss 44 0,mv 46 45,Gf 46 (mv 47 7),Gf 46 (bc 48 .gtr 47 1000000),fH 49 46 48,mv 50 49,Gf 50 (mv 51 7),Gf 50 (bc 52 .eql 51 0),
Gf 50 (mv 53 52),Gt 53 (fa 54 1 1),Gt 53 (ln 55 54),Gt 53 (mv 56 6),Gt 53 (ia 57 1 55 56),Gt 53 (ln 58 57),Gf 50 (rP 59 53 58),
fH 60 50 59] [1,37,38,39,60]
(Cd 60
(Sn [
ic 2 8] [2]
.ret)
.skip))))
(Rn [
bc 61 .add 39 1,mv 39 61] [1,37,38,39])))))))
(Sn [
ic 2 0] [2]
.ret)))))))),
[.tmp 2]⟩
theorem aA2:ck aIy 167:=by decide+kernel
def aIz:aI:=⟨2,
(Sn [
bx 2 0,bx 3 1,ic 4 0] [2,3]
(Sn [
fa 8 0 2,ld 9 2 8,fa 10 0 3,ld 11 2 10,p2 12 34 9 11,mv 7 12,ex 13 0 7,ex 14 1 7,mv 5 13,mv 6 14] [2,3,5]
(Sn [
mv 15 5,fa 16 2 2,ln 17 16,fa 18 2 3,ln 19 18,p2 20 180 17 19,⟨some 21,.mkrow 1 2 [.int .i64 0] [(0,(.t 15)),(1,(.t 20))],none⟩,p1 22 196 21,
mv 4 22] [4]
.ret))),
[.tmp 4]⟩
theorem aA3:ck aIz 168:=by decide+kernel
def aIA:aI:=⟨3,
(Sn [
bx 3 0,bx 4 1,bx 5 2,Al 6 z8,Fl 7,ic 8 0] [3,4,5,6]
(.seq
(Sn [
ld 12 3 3,ld 13 3 4,ld 14 2 5,p3 15 152 12 13 14,mv 9 15] [3,4,5,6,9]
(Sn [
mv 16 9,bc 17 .neq 16 0] [3,4,5,6,9,17]
(Cd 17
(Sn [
Bu 18 z8 [],mv 19 9,st 2 6 18,Fl 7,mv 8 19] [6,7,8]
.ret)
.skip)))
(.seq
(Sn [
ld 20 3 4,ld 21 3 3,ld 22 2 5,p3 23 153 20 21 22,bc 24 .gtr 23 0] [3,4,5,6,24]
(Cd 24
(Sn [
ld 25 2 5,st 2 6 25,Tr 7,ic 8 0] [6,7,8]
.ret)
.skip))
(.seq
(Sn [
fa 26 2 4,ln 27 26,fa 28 2 3,ln 29 28,bt 30 .leq 27 29] [3,4,6,30]
(Cd 30
(Sn [
Bu 31 z8 [],st 2 6 31,Fl 7,ic 8 0] [6,7,8]
.ret)
.skip))
(Sn [
ld 33 3 3,ld 34 3 4,p2 35 213 33 34,mv 32 35,ex 36 0 32,ex 37 1 32,Al 10 z8,st 2 10 36,mv 11 37] [6,10,11]
(Sn [
ld 38 2 10,mv 39 11,bc 40 .eql 39 0,mv 41 11,st 2 6 38,mv 7 40,mv 8 41] [6,7,8]
.ret)))))),
[.cell 6 (some 2),.tmp 7,.tmp 8]⟩
theorem aA4:ck aIA 169:=by decide+kernel
def aIB:aI:=⟨1,
(Sn [
bx 1 0,Fl 2] [1]
(Sn [
fa 3 0 1,ln 4 3,bc 5 .geq 4 0,mv 6 5,Gt 6 (fa 7 0 1),Gt 6 (ln 8 7),Gt 6 (bc 9 .leq 8 65535),rP 10 6 9,mv 11 10,Gt 11 (fa 12 1 1),Gt 11 (ln 13 12),
Gt 11 (bc 14 .geq 13 0),rP 15 11 14,mv 16 15,Gt 16 (fa 17 1 1),Gt 16 (ln 18 17),Gt 16 (bc 19 .leq 18 65535),rP 20 16 19,mv 21 20,Gt 21 (fa 22 0 1),
Gt 21 (ln 23 22),Gt 21 (fa 24 1 1),Gt 21 (ln 25 24),Gt 21 (bt 26 .neq 23 25),rP 27 21 26,mv 2 27] [2]
.ret)),
[.tmp 2]⟩
theorem aA5:ck aIB 170:=by decide+kernel
def aIC:aI:=⟨1,
(Sn [
bx 1 0,ic 2 0] [1]
(Sn [
fa 7 0 1,ln 8 7,le 9 8,mv 3 9] [1,3]
(.seq
(Sn [
mv 10 3,bc 11 .lss 10 1,mv 12 11,Gf 12 (mv 13 3),Gf 12 (bc 14 .gtr 13 200),fH 15 12 14,mv 16 15,Gf 16 (fa 17 1 1),Gf 16 (ln 18 17),Gf 16 (le 19 18),
Gf 16 (mv 20 3),Gf 16 (bt 21 .neq 19 20),fH 22 16 21,mv 23 22,Gf 23 (fa 24 2 1),Gf 23 (ln 25 24),Gf 23 (le 26 25),Gf 23 (mv 27 3),
Gf 23 (bt 28 .gtr 26 27),fH 29 23 28] [1,3,29]
(Cd 29
(Sn [
ic 2 8] [2]
.ret)
.skip))
(Sn [
mv 30 3,⟨some 31,.mks 1 [.bool false] (.t 30) (.t 30),none⟩,mv 4 31] [1,3,4]
(.seq
(Sn [
ic 5 0] [1,3,4,5]
(.block 0
(.loop [(1,none),(3,none),(4,none),(5,none)]
(.seq
(Sn [
mv 32 5,fa 33 2 1,ln 34 33,le 35 34,bt 36 .lss 32 35] [1,3,4,5,36]
(Cd 36
.skip
(.exit 0)))
(.seq
(.block 1
(.seq
(Sn [
fa 39 2 1,ln 40 39,mv 41 5,ia 42 1 40 41,ln 43 42,bc 44 .lss 43 0,mv 45 44,Gf 45 (fa 46 2 1),Gf 45 (ln 47 46),Gf 45 (mv 48 5),Gf 45 (ia 49 1 47 48),
Gf 45 (ln 50 49),Gf 45 (mv 51 3),Gf 45 (bt 52 .geq 50 51),fH 53 45 52,mv 54 53,Gf 54 (mv 55 4),Gf 54 (fa 56 2 1),Gf 54 (ln 57 56),Gf 54 (mv 58 5),
Gf 54 (ia 59 1 57 58),Gf 54 (ln 60 59),Gf 54 (ia 61 1 55 60),Gf 54 (ln 62 61),fH 63 54 62] [1,3,4,5,63]
(Cd 63
(Sn [
ic 2 8] [2]
.ret)
.skip))
(Rn [
mv 64 4,fa 65 2 1,ln 66 65,mv 67 5,ia 68 1 66 67,ln 69 68,ia 70 1 64 69,⟨none,.store 1 (.t 70) (.c (.bool true)),none⟩] [1,3,4,5])))
(Rn [
mv 37 5,bc 38 .add 37 1,mv 5 38] [1,3,4,5]))))))
(.seq
(Sn [
ic 6 0] [1,3,4,6]
(.block 2
(.loop [(1,none),(3,none),(4,none),(6,none)]
(.seq
(Sn [
mv 71 6,mv 72 3,bt 73 .lss 71 72] [1,3,4,6,73]
(Cd 73
.skip
(.exit 2)))
(.seq
(.block 3
(Ss [0,1,0,7,15,31,63,127,255,127,1023,2047,4095,8191,16383,32767,65535,32767,262143,524287,32767,32767,3178495,7372799,16777215,33554431,67108863,134217727,268435455,134217727,1073741823,2147483647,4294967295,8589934591,17179869183,8589934591,68719476735,137438953471,274877906943,549755813887,1099511627775] [
fa 76 0 1,ln 77 76,mv 78 6,ia 79 1 77 78,ln 80 79,bc 81 .lss 80 0,mv 82 81,Gf 82 (fa 83 0 1),Gf 82 (ln 84 83),Gf 82 (mv 85 6),Gf 82 (ia 86 1 84 85),
Gf 82 (ln 87 86),Gf 82 (bc 88 .gtr 87 1000000),fH 89 82 88,mv 90 89,Gf 90 (fa 91 1 1),Gf 90 (ln 92 91),Gf 90 (mv 93 6),Gf 90 (ia 94 1 92 93),
Gf 90 (ln 95 94),Gf 90 (mv 96 4),Gf 90 (mv 97 6),Gf 90 (ia 98 1 96 97),Gf 90 (ln 99 98),Gf 90 (⟨some 100,.binb false (.t 95) (.t 99),none⟩),
fH 101 90 100,mv 102 101,Gf 102 (fa 103 1 1),Gf 102 (ln 104 103),Gf 102 (mv 105 6),Gf 102 (ia 106 1 104 105),Gf 102 (ln 107 106),Gf 102 (mv 108 107),
Gt 108 (fa 109 0 1),Gt 108 (ln 110 109),Gt 108 (mv 111 6),Gt 108 (ia 112 1 110 111),Gt 108 (ln 113 112),Gt 108 (bc 114 .lss 113 1),
Gf 102 (rP 115 108 114),fH 116 102 115] [1,3,4,6,116]
(Cd 116
(Sn [
ic 2 8] [2]
.ret)
.skip)))
(Rn [
mv 74 6,bc 75 .add 74 1,mv 6 75] [1,3,4,6]))))))
(Sn [
ic 2 0] [2]
.ret))))))),
[.tmp 2]⟩
theorem aA6:ck aIC 171:=by decide+kernel
def aID:aI:=⟨1,
(Sn [
bx 1 0,Fl 2] [1]
(Sn [
fa 6 0 1,fa 7 0 6,ln 8 7,le 9 8,mv 3 9] [1,3]
(.seq
(Sn [
fa 10 4 1,ln 11 10,le 12 11,mv 13 3,bt 14 .neq 12 13,mv 15 14,Gf 15 (fa 16 3 1),Gf 15 (ln 17 16),Gf 15 (le 18 17),Gf 15 (mv 19 3),Gf 15 (fa 20 0 1),
Gf 15 (fa 21 2 20),Gf 15 (ln 22 21),Gf 15 (le 23 22),Gf 15 (bt 24 .sub 19 23),Gf 15 (bt 25 .neq 18 24),fH 26 15 25] [1,3,26]
(Cd 26
(Sn [
Fl 2] [2]
.ret)
.skip))
(.seq
(Sn [
ic 4 0] [1,3,4]
(.block 0
(.loop [(1,none),(3,none),(4,none)]
(.seq
(Sn [
mv 27 4,mv 28 3,bt 29 .lss 27 28] [1,3,4,29]
(Cd 29
.skip
(.exit 0)))
(.seq
(.block 1
(.seq
(Sn [
fa 32 0 1,fa 33 1 32,ln 34 33,mv 35 4,ia 36 1 34 35,ln 37 36,No 38 37] [1,3,4,38]
(Cd 38
(.seq
(Sn [
fa 39 4 1,ln 40 39,mv 41 4,ia 42 1 40 41,ln 43 42,bc 44 .neq 43 (-1)] [1,3,4,44]
(Cd 44
(Sn [
Fl 2] [2]
.ret)
.skip))
(.exit 1))
.skip))
(Sn [
fa 45 4 1,ln 46 45,mv 47 4,ia 48 1 46 47,ln 49 48,mv 5 49] [1,3,4,5]
(Ss [0,1,3,7,7,23,55,127,255,511,1023,2047,1023,8191,16383,32767,65535,1023,262143,524287,1048575,2097151,4194303,2097151,10485759,2097151,60817407,127926271,262143999,536870911,1073741823,2147483647] [
mv 50 5,bc 51 .lss 50 0,mv 52 51,Gf 52 (mv 53 5),Gf 52 (fa 54 3 1),Gf 52 (ln 55 54),Gf 52 (le 56 55),Gf 52 (bt 57 .geq 53 56),fH 58 52 57,mv 59 58,
Gf 59 (fa 60 3 1),Gf 59 (ln 61 60),Gf 59 (mv 62 5),Gf 59 (ia 63 5 61 62),Gf 59 (fa 64 3 63),Gf 59 (fa 65 0 64),Gf 59 (ln 66 65),Gf 59 (mv 67 4),
Gf 59 (bt 68 .neq 66 67),fH 69 59 68,mv 70 69,Gf 70 (fa 71 0 1),Gf 70 (ld 72 3 71),Gf 70 (fa 73 3 1),Gf 70 (ln 74 73),Gf 70 (mv 75 5),
Gf 70 (ia 76 5 74 75),Gf 70 (fa 77 3 76),Gf 70 (ld 78 2 77),Gf 70 (p2 79 175 72 78),Gf 70 (No 80 79),fH 81 70 80] [1,3,4,81]
(Cd 81
(Sn [
Fl 2] [2]
.ret)
.skip)))))
(Rn [
mv 30 4,bc 31 .add 30 1,mv 4 31] [1,3,4]))))))
(Sn [
Tr 2] [2]
.ret))))),
[.tmp 2]⟩
theorem aA7:ck aID 172:=by decide+kernel
def aIE:aI:=⟨2,
(Sn [
bx 2 0,bx 3 1,Fl 4] [2,3]
(Sn [
fa 6 0 2,ld 7 2 6,fa 8 0 3,ld 9 2 8,p2 10 84 7 9,mv 5 10] [2,3,5]
(Sn [
mv 11 5,bc 12 .lss 11 0,mv 13 12,Gf 13 (mv 14 5),Gf 13 (bc 15 .eql 14 0),Gf 13 (mv 16 15),Gt 16 (fa 17 2 2),Gt 16 (ln 18 17),Gt 16 (fa 19 2 3),
Gt 16 (ln 20 19),Gt 16 (bt 21 .lss 18 20),Gf 13 (rP 22 16 21),fH 23 13 22,mv 4 23] [4]
.ret))),
[.tmp 4]⟩
theorem aA8:ck aIE 173:=by decide+kernel
def aIF:aI:=⟨3,
(Sn [
bx 3 0,bx 4 1,bx 5 2,Al 6 z8,Fl 7] [3,4,5,6]
(.seq
(Sn [
ld 8 3 4,ld 9 3 3,ld 10 2 5,p3 11 176 8 9 10] [3,4,5,6,11]
(Cd 11
(Sn [
ld 12 2 5,st 2 6 12,Tr 7] [6,7]
.ret)
.skip))
(.seq
(Sn [
fa 13 2 4,ln 14 13,fa 15 2 3,ln 16 15,bt 17 .gtr 14 16] [3,4,6,17]
(Cd 17
(Sn [
ld 18 3 3,ld 19 3 4,p2 20 214 18 19,st 2 6 20,Tr 7] [6,7]
.ret)
.skip))
(Sn [
Bu 21 z8 [],st 2 6 21,Fl 7] [6,7]
.ret)))),
[.cell 6 (some 2),.tmp 7]⟩
theorem aA9:ck aIF 174:=by decide+kernel
def aIG:aI:=⟨2,
(Sn [
bx 2 0,bx 3 1,Fl 4] [2,3]
(Ss [0,1,3,7,15,31,15,79,207,511,1023,2047,4095,8191,4095,20479,65535,131071,262143,524287,1048575,2097151,1048575,5242879,16777215,33554431,1048575,68157439,268435455,536870911,1073741823] [
fa 5 0 3,ln 6 5,bc 7 .geq 6 0,mv 8 7,Gt 8 (fa 9 0 3),Gt 8 (ln 10 9),Gt 8 (fa 11 0 2),Gt 8 (ln 12 11),Gt 8 (le 13 12),Gt 8 (bt 14 .lss 10 13),
rP 15 8 14,mv 16 15,Gt 16 (fa 17 1 2),Gt 16 (ln 18 17),Gt 16 (fa 19 0 3),Gt 16 (ln 20 19),Gt 16 (ia 21 1 18 20),Gt 16 (ln 22 21),rP 23 16 22,
mv 24 23,Gt 24 (fa 25 0 2),Gt 24 (ln 26 25),Gt 24 (fa 27 0 3),Gt 24 (ln 28 27),Gt 24 (ia 29 1 26 28),Gt 24 (ln 30 29),Gt 24 (fa 31 1 3),
Gt 24 (ln 32 31),Gt 24 (bt 33 .eql 30 32),rP 34 24 33,mv 4 34] [4]
.ret)),
[.tmp 4]⟩
theorem aBa:ck aIG 175:=by decide+kernel
def aIH:aI:=⟨3,
(Sn [
bx 3 0,bx 4 1,bx 5 2,Fl 6] [3,4,5]
(Sn [
ld 8 3 3,ld 9 3 4,ld 10 2 5,p3 11 215 8 9 10,mv 7 11] [3,4,7]
(.seq
(Sn [
mv 12 7,bc 13 .neq 12 0] [3,4,7,13]
(Cd 13
(Sn [
mv 14 7,bc 15 .gtr 14 0,mv 6 15] [6]
.ret)
.skip))
(.seq
(Sn [
fa 16 2 3,ln 17 16,fa 18 2 4,ln 19 18,bt 20 .neq 17 19] [3,4,20]
(Cd 20
(Sn [
fa 21 2 3,ln 22 21,fa 23 2 4,ln 24 23,bt 25 .gtr 22 24,mv 6 25] [6]
.ret)
.skip))
(Sn [
fa 26 0 3,ln 27 26,fa 28 0 4,ln 29 28,bt 30 .lss 27 29,mv 6 30] [6]
.ret))))),
[.tmp 6]⟩
theorem aBb:ck aIH 176:=by decide+kernel
def aII:aI:=⟨1,
(Sn [
Fl 2] [0]
(Sn [
mv 3 0,bc 4 .lss 3 (-1048576),mv 5 4,Gf 5 (mv 6 0),Gf 5 (bc 7 .gtr 6 1048576),fH 8 5 7,mv 2 8] [2]
.ret)),
[.tmp 2]⟩
theorem aBc:ck aII 177:=by decide+kernel
def aIJ:aI:=⟨3,
(Sn [
ic 6 0,Fl 7] [0,1,2]
(Sn [
mv 12 0,le 13 12,mv 8 13] [0,1,2,8]
(Sn [
mv 14 8,ic 9 0,mv 10 14] [0,1,2,8,9,10]
(.seq
(.block 0
(.loop [(0,none),(1,none),(2,none),(8,none),(9,none),(10,none)]
(.seq
(Sn [
mv 15 9,mv 16 10,bt 17 .lss 15 16] [0,1,2,8,9,10,17]
(Cd 17
.skip
(.exit 0)))
(.block 1
(Sn [
mv 18 9,mv 19 10,bt 20 .add 18 19,⟨some 21,.conv .u64 (.t 20),none⟩,⟨some 22,.bin .shr (.t 21) (.c (.int .u64 1)),none⟩,
⟨some 23,.conv .i64 (.t 22),none⟩,mv 11 23] [0,1,2,8,9,10,11]
(Sn [
mv 24 2,mv 25 0,mv 26 11,ia 27 3 25 26,ld 28 3 27,mv 29 1,⟨some 30,.callv (.t 24) [(.t 28),(.t 29)],none⟩,bc 31 .lss 30 0] [0,1,2,8,9,10,11,31]
(Cd 31
(Rn [
mv 32 11,bc 33 .add 32 1,mv 9 33] [0,1,2,8,9,10])
(Rn [
mv 34 11,mv 10 34] [0,1,2,8,9,10]))))))))
(Sn [
mv 35 9,mv 36 9,mv 37 8,bt 38 .lss 36 37,mv 39 38,Gt 39 (mv 40 2),Gt 39 (mv 41 0),Gt 39 (mv 42 9),Gt 39 (ia 43 3 41 42),Gt 39 (ld 44 3 43),
Gt 39 (mv 45 1),Gt 39 (⟨some 46,.callv (.t 40) [(.t 44),(.t 45)],none⟩),Gt 39 (bc 47 .eql 46 0),rP 48 39 47,mv 6 35,mv 7 48] [6,7]
.ret))))),
[.tmp 6,.tmp 7]⟩
theorem aBd:ck aIJ 178:=by decide+kernel
def aIK:aI:=⟨2,
(Sn [
bx 2 0,ic 4 0] [1,2]
(Sn [
fa 5 0 2,ln 6 5,mv 7 1,p2 8 180 6 7,mv 4 8] [4]
.ret)),
[.tmp 4]⟩
theorem aBe:ck aIK 179:=by decide+kernel
def aIL:aI:=⟨2,
(Sn [
ic 4 0] [0,1]
(Sn [
mv 7 0,p1 8 216 7,mv 5 8] [0,1,5]
(Sn [
mv 9 1,p1 10 216 9,mv 6 10] [0,1,5,6]
(.seq
(Sn [
mv 11 5] [0,1,6,11]
(Cd 11
(.seq
(Sn [
mv 12 6] [12]
(Cd 12
(Sn [
ic 4 0] [4]
.ret)
.skip))
(Sn [
ic 4 (-1)] [4]
.ret))
.skip))
(.seq
(Sn [
mv 13 6] [0,1,13]
(Cd 13
(Sn [
ic 4 1] [4]
.ret)
.skip))
(.seq
(Sn [
mv 14 0,mv 15 1,bt 16 .lss 14 15] [0,1,16]
(Cd 16
(Sn [
ic 4 (-1)] [4]
.ret)
.skip))
(.seq
(Sn [
mv 17 0,mv 18 1,bt 19 .gtr 17 18] [19]
(Cd 19
(Sn [
ic 4 1] [4]
.ret)
.skip))
(Sn [
ic 4 0] [4]
.ret)))))))),
[.tmp 4]⟩
theorem aBf:ck aIL 180:=by decide+kernel
def aIM:aI:=⟨1,
(Sn [
Fl 2] [0]
(Sn [
mv 3 0,mv 4 0,bt 5 .neq 3 4,mv 2 5] [2]
.ret)),
[.tmp 2]⟩
theorem aBg:ck aIM 183:=by decide+kernel
def aIN:aI:=⟨2,
(Sn [
bx 2 0,Al 4 z7,Al 5 z8,ic 6 0] [1,2,4,5]
(Sn [
ld 10 2 2,mv 11 1,p2 12 218 10 11,mv 9 12,ex 13 0 9,ex 14 1 9,mv 7 13,mv 8 14] [2,4,5,7,8]
(.seq
(Sn [
mv 15 8,bc 16 .neq 15 0] [2,4,5,7,8,16]
(Cd 16
(Sn [
Bu 17 z7 [],Bu 18 z8 [],mv 19 8,st 2 4 17,st 2 5 18,mv 6 19] [4,5,6]
.ret)
.skip))
(Ss [0,1,0,4,12,0,0,64,252,511,0,1024,0,7168,15360,31744,1023,131071,262143] [
fa 20 0 2,ln 21 20,fa 22 1 2,ln 23 22,p1 24 138 23,mv 25 7,mv 26 7,bc 27 .add 26 1,⟨some 28,.call .fp 219 [(.t 24),(.t 25),(.t 27)],none⟩,
Bu 29 z7 [(0,1,(.t 21)),(1,1,(.t 28))],fa 30 1 2,ln 31 30,mv 32 7,ia 33 3 31 32,fa 34 1 33,ld 35 2 34,st 2 4 29,
st 2 5 35,ic 6 0] [4,5,6]
.ret)))),
[.cell 4 (some 2),.cell 5 (some 2),.tmp 6]⟩
theorem aBh:ck aIN 184:=by decide+kernel
def aIO:aI:=⟨3,
(Sn [
⟨some 6,.mov (.c (.sl 3 true [])),none⟩] [0,1,2]
(Sn [
mv 8 0,mv 9 1,mv 10 2,mv 11 0,le 12 11,⟨some 13,.slc 3 (.t 8) (some (.t 9)) (some (.t 10)) (some (.t 12)),none⟩] [0,1,2]
(.seq
(Sn [
mv 14 1,mv 15 2,bt 16 .eql 14 15] [0,1,2,16]
(Cd 16
(Sn [
mv 17 0,mv 6 17] [6]
.ret)
.skip))
(Sn [
mv 18 0,le 19 18,mv 7 19] [0,1,2,7]
(Ss [0,0,3,0,0,24,63,127] [
mv 20 0,mv 21 1,⟨some 22,.slc 3 (.t 20) none (some (.t 21)) none,none⟩,mv 23 0,mv 24 2,⟨some 25,.slc 3 (.t 23) (some (.t 24)) none none,none⟩,
ap 26 3 22 25,mv 0 26] [0,7]
(Sn [
mv 27 0,mv 28 0,le 29 28,mv 30 7,⟨some 31,.slc 3 (.t 27) (some (.t 29)) (some (.t 30)) none,none⟩,
⟨none,.clear 3 z5 (.t 31),none⟩] [0]
(Sn [
mv 32 0,mv 6 32] [6]
.ret))))))),
[.tmp 6]⟩
theorem aBi:ck aIO 185:=by decide+kernel
def aIP:aI:=⟨2,
(Sn [
Al 4 z6] [0,1,4]
(Sn [
mv 12 0,⟨some 13,.bin .quo (.t 12) (.c (.int .u64 4294967296)),none⟩,mv 14 0,⟨some 15,.bin .rem (.t 14) (.c (.int .u64 4294967296)),none⟩,mv 16 1,
⟨some 17,.bin .quo (.t 16) (.c (.int .u64 4294967296)),none⟩,mv 18 1,⟨some 19,.bin .rem (.t 18) (.c (.int .u64 4294967296)),none⟩,mv 5 13,mv 6 15,
mv 7 17,mv 8 19] [4,5,6,7,8]
(Sn [
mv 20 6,mv 21 8,bt 22 .mul 20 21,mv 9 22] [4,5,6,7,8,9]
(Sn [
mv 23 5,mv 24 8,bt 25 .mul 23 24,mv 26 9,⟨some 27,.bin .quo (.t 26) (.c (.int .u64 4294967296)),none⟩,bt 28 .add 25 27,mv 10 28] [4,5,6,7,9,10]
(Sn [
mv 29 6,mv 30 7,bt 31 .mul 29 30,mv 32 10,⟨some 33,.bin .rem (.t 32) (.c (.int .u64 4294967296)),none⟩,bt 34 .add 31 33,mv 11 34] [4,5,7,9,10,11]
(Sn [
mv 35 5,mv 36 7,bt 37 .mul 35 36,mv 38 10,⟨some 39,.bin .quo (.t 38) (.c (.int .u64 4294967296)),none⟩,bt 40 .add 37 39,mv 41 11,
⟨some 42,.bin .quo (.t 41) (.c (.int .u64 4294967296)),none⟩,bt 43 .add 40 42,mv 44 11,⟨some 45,.bin .rem (.t 44) (.c (.int .u64 4294967296)),none⟩,
⟨some 46,.bin .mul (.t 45) (.c (.int .u64 4294967296)),none⟩,mv 47 9,⟨some 48,.bin .rem (.t 47) (.c (.int .u64 4294967296)),none⟩,bt 49 .add 46 48,
Bu 50 z6 [(1,1,(.t 43)),(2,1,(.t 49))],st 3 4 50] [4]
.ret)))))),
[.cell 4 (some 3)]⟩
theorem aBj:ck aIP 186:=by decide+kernel
def aIQ:aI:=⟨2,
(Sn [
bx 2 0,Al 4 z7] [1,2,4]
(Sn [
fa 7 0 2,ln 8 7,Bu 9 z7 [(0,1,(.t 8))],Al 5 z7,st 2 5 9] [1,2,4,5]
(.seq
(Sn [
ic 6 0] [1,2,4,5,6]
(.block 0
(.loop [(1,none),(2,none),(4,none),(5,none),(6,none),(5,some 2003)]
(.seq
(Sn [
mv 10 6,fa 11 1 2,ln 12 11,le 13 12,bt 14 .lss 10 13] [1,2,4,5,6,14]
(Cd 14
.skip
(.exit 0)))
(.seq
(.block 1
(Sn [
fa 17 1 2,ln 18 17,mv 19 6,ia 20 3 18 19,fa 21 0 20,ln 22 21,mv 23 1,bt 24 .neq 22 23] [1,2,4,5,6,24]
(Cd 24
(Rs [0,1,0,4,0,28,60,124,255,511,1023] [
fa 25 1 5,ln 26 25,fa 27 1 2,ln 28 27,mv 29 6,ia 30 3 28 29,ld 31 3 30,
⟨some 32,.mkrow 3 1 z5 [(0,(.t 31))],none⟩,ap 33 3 26 32,fa 34 1 5,st 1 34 33] [1,2,4,5,6])
.skip)))
(Rn [
mv 15 6,bc 16 .add 15 1,mv 6 16] [1,2,4,5,6]))))))
(Sn [
ld 35 2 5,st 2 4 35] [4]
.ret)))),
[.cell 4 (some 2)]⟩
theorem aBk:ck aIQ 187:=by decide+kernel
def aIR:aI:=⟨2,
(Sn [
bx 2 0,ic 4 0] [1,2]
(.seq
(Sn [
ic 5 0] [1,2,5]
(.block 0
(.loop [(1,none),(2,none),(5,none)]
(.seq
(Sn [
mv 6 5,fa 7 10 2,ln 8 7,le 9 8,bt 10 .lss 6 9] [1,2,5,10]
(Cd 10
.skip
(.exit 0)))
(.seq
(.block 1
(Sn [
fa 13 10 2,ln 14 13,mv 15 5,ia 16 3 14 15,fa 17 0 16,ln 18 17,mv 19 1,bt 20 .eql 18 19] [1,2,5,20]
(Cd 20
(Sn [
mv 21 5,mv 4 21] [4]
.ret)
.skip)))
(Rn [
mv 11 5,bc 12 .add 11 1,mv 5 12] [1,2,5]))))))
(Sn [
ic 4 (-1)] [4]
.ret))),
[.tmp 4]⟩
theorem aBl:ck aIR 188:=by decide+kernel
def aIS:aI:=⟨2,
(Sn [
bx 2 0,bx 3 1,Al 4 z2] [2,3,4]
(Sn [
ld 8 5 2,⟨some 9,.call .own 74 [(.t 8)],none⟩,Al 5 z2,st 5 5 9] [3,4,5]
(Ss [0,1,0,4,15,31,0,64,192,448,63,2047] [
fa 10 4 5,ln 11 10,fa 12 0 3,ln 13 12,ia 14 1 11 13,ln 15 14,fa 16 3 5,ln 17 16,le 18 17,bc 19 .sub 18 1,mv 6 15,mv 7 19] [3,4,5,6,7]
(.seq
(Sn [
mv 20 6,mv 21 7,bt 22 .neq 20 21] [3,4,5,6,7,22]
(Cd 22
(Rn [
ld 23 5 5,mv 24 6,mv 25 7,⟨some 26,.call .fp 220 [(.t 23),(.t 24),(.t 25)],none⟩] [3,4,5,6,7])
.skip))
(Sn [
fa 27 3 5,ln 28 27,mv 29 7,⟨some 30,.slc 5 (.t 28) none (some (.t 29)) none,none⟩,fa 31 3 5,st 1 31 30] [3,4,5,6,7]
(Sn [
fa 32 4 5,ln 33 32,fa 34 0 3,ln 35 34,ia 36 1 33 35,⟨none,.store 1 (.t 36) (.c (.int .i64 (-1))),none⟩] [3,4,5,6,7]
(Sn [
fa 37 0 5,ld 38 3 37,ld 39 2 3,p2 40 221 38 39,fa 41 0 5,st 3 41 40] [4,5,6,7]
(.seq
(Sn [
mv 42 6,mv 43 7,bt 44 .neq 42 43] [4,5,6,44]
(Cd 44
(Rs [0,0,0,6,15] [
ld 45 5 5,ld 46 5 5,mv 47 6,⟨some 48,.call .fp 223 [(.t 46),(.t 47)],none⟩,⟨some 49,.call .fp 222 [(.t 45),(.t 48)],none⟩] [4,5])
.skip))
(Sn [
ld 50 5 5,st 5 4 50] [4]
.ret))))))))),
[.cell 4 (some 5)]⟩
theorem aBm:ck aIS 189:=by decide+kernel
def aIT:aI:=⟨3,
(Sn [
bx 3 0,bx 4 1,bx 5 2,Al 6 z2] [3,4,5,6]
(Sn [
ld 9 5 3,⟨some 10,.call .own 74 [(.t 9)],none⟩,Al 7 z2,st 5 7 10] [4,5,6,7]
(Sn [
fa 11 4 7,ln 12 11,fa 13 0 4,ln 14 13,ia 15 1 12 14,ln 16 15,mv 8 16] [5,6,7,8]
(Sn [
fa 17 3 7,ln 18 17,mv 19 8,ld 20 2 5,ia 21 5 18 19,fa 22 0 21,st 2 22 20] [6,7,8]
(Ss [0,0,0,6,15] [
ld 23 5 7,ld 24 5 7,mv 25 8,⟨some 26,.call .fp 223 [(.t 24),(.t 25)],none⟩,⟨some 27,.call .fp 222 [(.t 23),(.t 26)],none⟩] [6,7]
(Sn [
ld 28 5 7,st 5 6 28] [6]
.ret)))))),
[.cell 6 (some 5)]⟩
theorem aBn:ck aIT 190:=by decide+kernel
def aIU:aI:=⟨1,
(Sn [
bx 1 0,Fl 2] [1]
(Sn [
fa 4 2 1,ln 5 4,le 6 5,mv 3 6] [1,3]
(Ss [0,1,3,7,15,7,39,7,135,487,999,2047,4095,8191,16383,32767] [
mv 7 3,bc 8 .gtr 7 0,mv 9 8,Gt 9 (fa 10 0 1),Gt 9 (ln 11 10),Gt 9 (fa 12 2 1),Gt 9 (ln 13 12),Gt 9 (mv 14 3),Gt 9 (bc 15 .sub 14 1),
Gt 9 (ia 16 1 13 15),Gt 9 (ln 17 16),Gt 9 (ia 18 1 11 17),Gt 9 (ln 19 18),Gt 9 (bc 20 .lss 19 1000000),rP 21 9 20,mv 2 21] [2]
.ret))),
[.tmp 2]⟩
theorem aBo:ck aIU 191:=by decide+kernel
def aIV:aI:=⟨3,
(Sn [
bx 3 0,bx 4 1,Al 6 z2,Al 7 z8] [2,3,4,6,7]
(Sn [
ld 11 5 3,⟨some 12,.call .own 74 [(.t 11)],none⟩,Al 8 z2,
st 5 8 12] [2,4,6,7,8]
(Sn [
fa 14 0 8,ld 15 3 14,p1 16 224 15,mv 13 16,ex 17 0 13,ex 18 1 13,Al 9 z4,Al 10 z8,
st 3 9 17,st 2 10 18] [2,4,6,7,8,9,10]
(Sn [
ld 19 3 9,fa 20 0 8,st 3 20 19] [2,4,6,7,8,10]
(Sn [
fa 21 3 8,ln 22 21,ld 23 2 4,mv 24 2,ld 25 2 10,
Bu 26 z3 [(0,2,(.t 23)),(2,1,(.t 24)),(3,2,(.t 25))],
⟨some 27,.mkrow 5 1 z3 [(0,(.t 26))],none⟩,ap 28 5 22 27,fa 29 3 8,
st 1 29 28] [6,7,8,10]
(Sn [
fa 30 4 8,ln 31 30,fa 32 0 10,ln 33 32,fa 34 3 8,ln 35 34,le 36 35,bc 37 .sub 36 1,ia 38 1 31 33,st 1 38 37] [6,7,8,10]
(Sn [
ld 39 5 8,fa 40 3 8,ln 41 40,le 42 41,bc 43 .sub 42 1,⟨some 44,.call .fp 223 [(.t 39),(.t 43)],none⟩] [6,7,8,10]
(Ss [0,0,1,7] [
ld 45 5 8,ld 46 2 10,st 5 6 45,st 2 7 46] [6,7]
.ret)))))))),
[.cell 6 (some 5),.cell 7 (some 2)]⟩
theorem aBp:ck aIV 192:=by decide+kernel
def aIW:aI:=⟨2,
(Sn [
bx 2 0,bx 3 1,Al 4 z7,ic 5 0,ic 6 0] [2,3,4]
(.seq
(Sn [
ld 8 2 2,p1 9 121 8,bc 10 .neq 9 0,mv 11 10,Gf 11 (ld 12 2 3),Gf 11 (p1 13 170 12),Gf 11 (No 14 13),fH 15 11 14] [2,3,4,15]
(Cd 15
(Sn [
Bu 16 z7 [],st 2 4 16,ic 5 0,ic 6 8] [4,5,6]
.ret)
.skip))
(.seq
(Sn [
ld 17 2 2,ld 18 2 3,p2 19 126 17 18] [2,3,4,19]
(Cd 19
(Sn [
Bu 20 z7 [],st 2 4 20,ic 5 0,ic 6 14] [4,5,6]
.ret)
.skip))
(.seq
(Sn [
fa 21 1 2,ln 22 21,le 23 22,bc 24 .eql 23 200,mv 25 24,Gf 25 (fa 26 0 2),Gf 25 (ln 27 26),Gf 25 (bc 28 .eql 27 1000000),fH 29 25 28] [2,3,4,29]
(Cd 29
(Sn [
Bu 30 z7 [],st 2 4 30,ic 5 0,ic 6 18] [4,5,6]
.ret)
.skip))
(Sn [
ld 31 2 2,⟨some 32,.call .own 73 [(.t 31)],none⟩,Al 7 z7,st 2 7 32] [2,3,4,7]
(Sn [
fa 33 1 7,ln 34 33,fa 35 0 2,ln 36 35,ld 37 2 3,Bu 38 z5 [(0,1,(.t 36)),(1,2,(.t 37))],
⟨some 39,.mkrow 3 1 z5 [(0,(.t 38))],none⟩,ap 40 3 34 39,fa 41 1 7,st 1 41 40] [2,4,7]
(Sn [
fa 42 0 7,ln 43 42,bc 44 .add 43 1,fa 45 0 7,st 1 45 44] [2,4,7]
(Ss [0,0,2,1,15,31] [
ld 46 2 7,fa 47 0 2,ln 48 47,st 2 4 46,mv 5 48,ic 6 0] [4,5,6]
.ret)))))))),
[.cell 4 (some 2),.tmp 5,.tmp 6]⟩
theorem aBq:ck aIW 193:=by decide+kernel
def aIX:aI:=⟨2,
(Sn [
Fl 4] [0,1]
(.seq
(Sn [
mv 6 0,le 7 6,mv 8 1,le 9 8,bt 10 .neq 7 9] [0,1,10]
(Cd 10
(Sn [
Fl 4] [4]
.ret)
.skip))
(.seq
(Sn [
ic 5 0] [0,1,5]
(.block 0
(.loop [(0,none),(1,none),(5,none)]
(.seq
(Sn [
mv 11 5,mv 12 0,le 13 12,bt 14 .lss 11 13] [0,1,5,14]
(Cd 14
.skip
(.exit 0)))
(.seq
(.block 1
(Ss [0,0,3,7,0,0,48,112,255] [
mv 17 0,mv 18 5,ia 19 1 17 18,ln 20 19,mv 21 1,mv 22 5,ia 23 1 21 22,ln 24 23,⟨some 25,.binb true (.t 20) (.t 24),none⟩] [0,1,5,25]
(Cd 25
(Sn [
Fl 4] [4]
.ret)
.skip)))
(Rn [
mv 15 5,bc 16 .add 15 1,mv 5 16] [0,1,5]))))))
(Sn [
Tr 4] [4]
.ret)))),
[.tmp 4]⟩
theorem aBr:ck aIX 194:=by decide+kernel
def aIY:aI:=⟨1,
(Sn [
bx 1 0,Al 2 z9] [1,2]
(Sn [
Al 3 z9] [1,2,3]
(.seq
(Sn [
ld 11 4 1,ic 12 0] [2,3,11,12]
(.block 0
(.loop [(2,none),(3,none),(11,none),(12,none)]
(Sn [
bc 13 .lss 12 2] [2,3,11,12,13]
(.seq
(Cd 13
.skip
(.exit 0))
(.seq
(.block 1
(Sn [
⟨some 14,.idx 2 2 (some 2) (.t 11) (.t 12),none⟩,Al 5 z8,st 2 5 14] [2,3,5,11,12]
(Sn [
⟨some 16,.iadra 2 1 (.t 5) (.c (.int .i64 0)),none⟩,ln 17 16,⟨some 18,.conv .u64 (.t 17),none⟩,⟨some 19,.iadra 2 1 (.t 5) (.c (.int .i64 1)),none⟩,
ln 20 19,⟨some 21,.conv .u64 (.t 20),none⟩,p2 22 136 18 21,mv 15 22,ex 23 0 15,ex 24 1 15,mv 6 23,mv 7 24] [2,3,5,6,7,11,12]
(Sn [
mv 25 6,⟨some 26,.conv .i64 (.t 25),none⟩,mv 8 26] [2,3,5,7,8,11,12]
(.seq
(Sn [
⟨some 27,.iadra 2 1 (.t 5) (.c (.int .i64 0)),none⟩,ln 28 27,bc 29 .lss 28 0] [2,3,5,7,8,11,12,29]
(Cd 29
(Rn [
mv 30 8,⟨some 31,.iadra 2 1 (.t 5) (.c (.int .i64 1)),none⟩,ln 32 31,bt 33 .sub 30 32,mv 8 33] [2,3,5,7,8,11,12])
.skip))
(.seq
(Sn [
⟨some 34,.iadra 2 1 (.t 5) (.c (.int .i64 1)),none⟩,ln 35 34,bc 36 .lss 35 0] [2,3,5,7,8,11,12,36]
(Cd 36
(Rn [
mv 37 8,⟨some 38,.iadra 2 1 (.t 5) (.c (.int .i64 0)),none⟩,ln 39 38,bt 40 .sub 37 39,mv 8 40] [2,3,7,8,11,12])
.skip))
(Sn [
fa 42 1 3,ln 43 42,mv 44 7,⟨some 45,.call .pur 225 [(.t 43),(.t 44),(.c (.int .u64 0))],none⟩,mv 41 45,ex 46 0 41,ex 47 1 41,mv 9 46,
mv 10 47] [2,3,8,9,10,11,12]
(Rn [
fa 48 0 3,ln 49 48,mv 50 8,bt 51 .add 49 50,mv 52 10,⟨some 53,.conv .i64 (.t 52),none⟩,bt 54 .add 51 53,mv 55 9,
Bu 56 z9 [(0,1,(.t 54)),(1,1,(.t 55))],st 2 3 56] [2,3,11,12]))))))))
(Rn [
bc 57 .add 12 1,mv 12 57] [2,3,11,12])))))))
(Sn [
ld 58 2 3,st 2 2 58] [2]
.ret)))),
[.cell 2 (some 2)]⟩
theorem aBs:ck aIY 195:=by decide+kernel
def aIZ:aI:=⟨1,
(Sn [
ic 2 0] [0]
(Sn [
ic 3 0] [0,3]
(.seq
(Sn [
mv 6 0,le 7 6,ic 8 0] [3,6,7,8]
(.block 0
(.loop [(3,none),(6,none),(7,none),(8,none)]
(Sn [
bt 9 .lss 8 7] [3,6,7,8,9]
(.seq
(Cd 9
.skip
(.exit 0))
(.seq
(.block 1
(Sn [
ia 10 1 6 8,ln 11 10,mv 5 11] [3,5,6,7,8]
(Sn [
mv 12 5,mv 13 3,bt 14 .neq 12 13] [3,5,6,7,8,14]
(Cd 14
(Sn [
mv 15 5,mv 2 15] [2]
.ret)
.skip))))
(Rn [
bc 16 .add 8 1,mv 8 16] [3,6,7,8])))))))
(Sn [
mv 17 3,mv 2 17] [2]
.ret)))),
[.tmp 2]⟩
theorem aBt:ck aIZ 196:=by decide+kernel
def aI0:aI:=⟨2,
(Sn [
⟨some 4,.mov (.c (.int .u64 0)),none⟩,⟨some 5,.mov (.c (.int .u64 0)),none⟩] [0,1]
(.seq
(.cond (.c (.bool false))
(Sn [
mv 11 0,⟨some 12,.conv .u32 (.t 11),none⟩,mv 13 1,⟨some 14,.conv .u32 (.t 13),none⟩,p2 15 226 12 14,mv 10 15,ex 16 0 10,ex 17 1 10,mv 6 16,
mv 7 17] [6,7]
(Sn [
mv 18 6,⟨some 19,.conv .u64 (.t 18),none⟩,mv 20 7,⟨some 21,.conv .u64 (.t 20),none⟩,mv 4 19,mv 5 21] [4,5]
.ret))
.skip)
(Sn [
mv 23 0,mv 24 1,p2 25 136 23 24,mv 22 25,ex 26 0 22,ex 27 1 22,mv 8 26,mv 9 27] [8,9]
(Sn [
mv 28 8,mv 29 9,mv 4 28,mv 5 29] [4,5]
.ret)))),
[.tmp 4,.tmp 5]⟩
theorem aBu:ck aI0 197:=by decide+kernel
def aI1:aI:=⟨2,
(Sn [
bx 2 0,ic 4 0] [1,2]
(Sn [
fa 5 0 2,ln 6 5,mv 7 1,p2 8 180 6 7,mv 4 8] [4]
.ret)),
[.tmp 4]⟩
theorem aBv:ck aI1 198:=by decide+kernel
def aI2:aI:=⟨3,
(Sn [
ic 6 0,Fl 7] [0,1,2]
(Sn [
mv 12 0,le 13 12,mv 8 13] [0,1,2,8]
(Sn [
mv 14 8,ic 9 0,mv 10 14] [0,1,2,8,9,10]
(.seq
(.block 0
(.loop [(0,none),(1,none),(2,none),(8,none),(9,none),(10,none)]
(.seq
(Sn [
mv 15 9,mv 16 10,bt 17 .lss 15 16] [0,1,2,8,9,10,17]
(Cd 17
.skip
(.exit 0)))
(.block 1
(Sn [
mv 18 9,mv 19 10,bt 20 .add 18 19,⟨some 21,.conv .u64 (.t 20),none⟩,⟨some 22,.bin .shr (.t 21) (.c (.int .u64 1)),none⟩,
⟨some 23,.conv .i64 (.t 22),none⟩,mv 11 23] [0,1,2,8,9,10,11]
(Sn [
mv 24 2,mv 25 0,mv 26 11,ia 27 3 25 26,ld 28 3 27,mv 29 1,⟨some 30,.callv (.t 24) [(.t 28),(.t 29)],none⟩,bc 31 .lss 30 0] [0,1,2,8,9,10,11,31]
(Cd 31
(Rn [
mv 32 11,bc 33 .add 32 1,mv 9 33] [0,1,2,8,9,10])
(Rn [
mv 34 11,mv 10 34] [0,1,2,8,9,10]))))))))
(Sn [
mv 35 9,mv 36 9,mv 37 8,bt 38 .lss 36 37,mv 39 38,Gt 39 (mv 40 2),Gt 39 (mv 41 0),Gt 39 (mv 42 9),Gt 39 (ia 43 3 41 42),Gt 39 (ld 44 3 43),
Gt 39 (mv 45 1),Gt 39 (⟨some 46,.callv (.t 40) [(.t 44),(.t 45)],none⟩),Gt 39 (bc 47 .eql 46 0),rP 48 39 47,mv 6 35,mv 7 48] [6,7]
.ret))))),
[.tmp 6,.tmp 7]⟩
theorem aBw:ck aI2 199:=by decide+kernel
def aI3:aI:=⟨2,
(Sn [
bx 2 0,ic 4 0] [1,2]
(Sn [
fa 5 0 2,ln 6 5,mv 7 1,p2 8 180 6 7,mv 4 8] [4]
.ret)),
[.tmp 4]⟩
theorem aBx:ck aI3 200:=by decide+kernel
def aI4:aI:=⟨2,
(Sn [
bx 2 0,bx 3 1,ic 4 0,ic 5 0] [2,3]
(.seq
(Sn [
ld 9 5 2,p1 10 118 9,mv 6 10] [2,3,6]
(Sn [
mv 11 6,bc 12 .neq 11 0] [2,3,6,12]
(Cd 12
(Sn [
mv 13 6,ic 4 0,mv 5 13] [4,5]
.ret)
.skip)))
(.seq
(Sn [
fa 15 0 2,ld 16 3 15,ld 17 2 3,p2 18 227 16 17,mv 14 18,ex 19 0 14,ex 20 1 14,mv 7 19,mv 8 20] [2,3,7,8]
(Sn [
mv 21 8,bc 22 .neq 21 0,mv 23 22,Gf 23 (mv 24 7),Gf 23 (No 25 24),fH 26 23 25] [2,3,26]
(Cd 26
(Sn [
ic 4 0,ic 5 6] [4,5]
.ret)
.skip)))
(Sn [
fa 27 4 2,ln 28 27,fa 29 0 3,ln 30 29,ia 31 1 28 30,ln 32 31,mv 4 32,ic 5 0] [4,5]
.ret)))),
[.tmp 4,.tmp 5]⟩
theorem aBy:ck aI4 201:=by decide+kernel
def VD:aI:=⟨1,
(Sn [
bx 1 0,Al 2 z2] [1,2]
(Ss [0,1,3,0,8,31,31,127,255,511] [
fa 3 3 1,ln 4 3,p1 5 140 4,fa 6 4 1,ln 7 6,p1 8 37 7,fa 9 3 1,st 1 9 5,fa 10 4 1,st 1 10 8] [1,2]
(Sn [
ld 11 5 1,st 5 2 11] [2]
.ret))),
[.cell 2 (some 5)]⟩
theorem aBz:ck VD 202:=by decide+kernel
def aI5:aI:=⟨3,
(Sn [
bx 3 0,bx 5 2] [1,3,5]
(.seq
(.block 0
(.loop [(1,none),(3,none),(5,none)]
(.seq
(Ss [0,1,3,7,7,23,7,71,199,503,1015,2047,4095,8191] [
mv 7 1,bc 8 .gtr 7 0,mv 9 8,Gt 9 (ld 10 5 5),Gt 9 (fa 11 3 3),Gt 9 (ln 12 11),Gt 9 (mv 13 1),Gt 9 (bc 14 .sub 13 1),Gt 9 (bc 15 .quo 14 2),
Gt 9 (ia 16 5 12 15),Gt 9 (ld 17 5 16),Gt 9 (p2 18 168 10 17),Gt 9 (bc 19 .lss 18 0),rP 20 9 19] [1,3,5,20]
(Cd 20
.skip
(.exit 0)))
(.block 1
(Ss [0,0,0,4,0,16,48,124,252,511] [
ld 21 5 3,mv 22 1,fa 23 3 3,ln 24 23,mv 25 1,bc 26 .sub 25 1,bc 27 .quo 26 2,ia 28 5 24 27,ld 29 5 28,
⟨some 30,.call .fp 228 [(.t 21),(.t 22),(.t 29)],none⟩] [1,3,5]
(Rn [
mv 31 1,bc 32 .sub 31 1,bc 33 .quo 32 2,mv 1 33] [1,3,5]))))))
(.seq
(Sn [
mv 34 1,⟨some 35,.bin .mul (.c (.int .i64 2)) (.t 34),none⟩,bc 36 .add 35 1,mv 6 36] [1,3,5,6]
(.block 2
(.loop [(1,none),(3,none),(5,none),(6,none)]
(.seq
(Sn [
mv 37 6,fa 38 3 3,ln 39 38,le 40 39,bt 41 .lss 37 40] [1,3,5,6,41]
(Cd 41
.skip
(.exit 2)))
(.seq
(.block 3
(.seq
(Ss [0,1,0,4,12,31,63,127,255,127,639,2047,4095,127,8319,127,57471,123007,262143,524287,1048575] [
mv 45 6,bc 46 .add 45 1,fa 47 3 3,ln 48 47,le 49 48,bt 50 .lss 46 49,mv 51 50,Gt 51 (fa 52 3 3),Gt 51 (ln 53 52),Gt 51 (mv 54 6),
Gt 51 (bc 55 .add 54 1),Gt 51 (ia 56 5 53 55),Gt 51 (ld 57 5 56),Gt 51 (fa 58 3 3),Gt 51 (ln 59 58),Gt 51 (mv 60 6),Gt 51 (ia 61 5 59 60),
Gt 51 (ld 62 5 61),Gt 51 (p2 63 168 57 62),Gt 51 (bc 64 .lss 63 0),rP 65 51 64] [1,3,5,6,65]
(Cd 65
(Rn [
mv 66 6,bc 67 .add 66 1,mv 6 67] [1,3,5,6])
.skip))
(.seq
(Ss [0,1,0,7,15,0,63,127] [
fa 68 3 3,ln 69 68,mv 70 6,ia 71 5 69 70,ld 72 5 71,ld 73 5 5,p2 74 168 72 73,bc 75 .geq 74 0] [1,3,5,6,75]
(Cd 75
(.exit 2)
.skip))
(Ss [0,0,0,4,0,28,60,127] [
ld 76 5 3,mv 77 1,fa 78 3 3,ln 79 78,mv 80 6,ia 81 5 79 80,ld 82 5 81,⟨some 83,.call .fp 228 [(.t 76),(.t 77),(.t 82)],none⟩] [3,5,6]
(Rn [
mv 84 6,mv 1 84] [1,3,5])))))
(Rn [
mv 42 1,⟨some 43,.bin .mul (.c (.int .i64 2)) (.t 42),none⟩,bc 44 .add 43 1,mv 6 44] [1,3,5,6]))))))
(Rn [
ld 85 5 3,mv 86 1,ld 87 5 5,⟨some 88,.call .fp 228 [(.t 85),(.t 86),(.t 87)],none⟩] [])))),
[]⟩
theorem aBA:ck aI5 203:=by decide+kernel
def aI6:aI:=⟨2,
(Sn [
Fl 4] [0,1]
(Sn [
mv 5 0,mv 6 1,p2 7 229 5 6,bc 8 .geq 7 0,mv 4 8] [4]
.ret)),
[.tmp 4]⟩
theorem aBB:ck aI6 204:=by decide+kernel
def aI7:aI:=⟨2,
(Sn [
bx 2 0,Fl 3] [1,2]
(Sn [
fa 4 2 2,ln 5 4,ln 6 1,bt 7 .eql 5 6,mv 3 7] [3]
.ret)),
[.tmp 3]⟩
theorem aBC:ck aI7 205:=by decide+kernel
def aI8:aI:=⟨1,
(Sn [
bx 1 0,Al 2 z4,Al 3 z8,ic 4 0] [1,2,3]
(.seq
(Sn [
ld 9 3 1,p1 10 167 9,mv 5 10] [1,2,3,5]
(Sn [
mv 11 5,bc 12 .neq 11 0] [1,2,3,5,12]
(Cd 12
(Sn [
Bu 13 z4 [],Bu 14 z8 [],mv 15 5,st 3 2 13,st 2 3 14,mv 4 15] [2,3,4]
.ret)
.skip)))
(.seq
(Sn [
fa 16 2 1,ln 17 16,le 18 17,bc 19 .eql 18 0] [1,2,3,19]
(Cd 19
(Sn [
Bu 20 z4 [],Bu 21 z8 [],st 3 2 20,st 2 3 21,ic 4 18] [2,3,4]
.ret)
.skip))
(Sn [
fa 23 2 1,ln 24 23,p1 25 230 24,mv 22 25,ex 26 0 22,ex 27 1 22,mv 6 26,mv 7 27] [1,2,3,6,7]
(.seq
(Sn [
fa 28 0 1,ln 29 28,mv 30 7,ia 31 1 29 30,ln 32 31,bc 33 .eql 32 1000000] [1,2,3,6,7,33]
(Cd 33
(Sn [
Bu 34 z4 [],Bu 35 z8 [],st 3 2 34,st 2 3 35,ic 4 18] [2,3,4]
.ret)
.skip))
(Sn [
ld 36 3 1,⟨some 37,.call .shr 231 [(.t 36)],none⟩,Al 8 z4,st 3 8 37] [2,3,6,7,8]
(Sn [
fa 38 1 8,ln 39 38,mv 40 7,mv 41 6,fa 42 2 8,st 1 42 41,ia 43 1 39 40,⟨none,.store 1 (.t 43) (.c (.bool true)),none⟩] [2,3,7,8]
(Sn [
fa 44 0 8,ln 45 44,mv 46 7,ia 47 1 45 46,ln 48 47,bc 49 .add 48 1,ia 50 1 45 46,st 1 50 49] [2,3,7,8]
(Ss [0,0,0,4,0,28,60,126,1,511,1023] [
ld 51 3 8,mv 52 7,fa 53 0 8,ln 54 53,mv 55 7,ia 56 1 54 55,ln 57 56,Bu 58 z8 [(0,1,(.t 52)),(1,1,(.t 57))],st 3 2 51,
st 2 3 58,ic 4 0] [2,3,4]
.ret))))))))),
[.cell 2 (some 3),.cell 3 (some 2),.tmp 4]⟩
theorem aBD:ck aI8 206:=by decide+kernel
def aI9:aI:=⟨2,
(Sn [
bx 2 0,Al 4 z2,
Al 5 z3,ic 6 0] [1,2,4,5]
(Sn [
fa 13 3 2,ln 14 13,mv 15 1,ia 16 5 14 15,ld 17 5 16,Al 7 z3,st 5 7 17] [1,2,4,5,7]
(Sn [
fa 19 0 2,ld 20 3 19,fa 21 3 7,ld 22 2 21,p2 23 232 20 22,mv 18 23,ex 24 0 18,ex 25 1 18,Al 8 z4,st 3 8 24,
mv 9 25] [1,2,4,5,7,8,9]
(.seq
(Sn [
mv 26 9,bc 27 .neq 26 0] [1,2,4,5,7,8,9,27]
(Cd 27
(Sn [
Bu 28 z2 [],
Bu 29 z3 [],mv 30 9,st 5 4 28,st 5 5 29,mv 6 30] [4,5,6]
.ret)
.skip))
(Sn [
ld 31 5 2,⟨some 32,.call .shr 202 [(.t 31)],none⟩,Al 10 z2,
st 5 10 32] [1,4,5,7,8,10]
(Sn [
fa 33 3 10,ln 34 33,le 35 34,bc 36 .sub 35 1,mv 11 36] [1,4,5,7,8,10,11]
(Sn [
fa 37 3 10,ln 38 37,mv 39 11,ia 40 5 38 39,ld 41 5 40,Al 12 z3,
st 5 12 41] [1,4,5,7,8,10,11,12]
(Ss [0,1,0,4,12,0,0,64,0,448,227,1251,4067,8163,16383,32767] [
fa 42 4 10,ln 43 42,fa 44 3 7,fa 45 0 44,ln 46 45,ld 47 3 8,fa 48 3 10,ln 49 48,mv 50 11,⟨some 51,.slc 5 (.t 49) none (some (.t 50)) none,none⟩,
fa 52 0 10,st 3 52 47,fa 53 3 10,st 1 53 51,ia 54 1 43 46,⟨none,.store 1 (.t 54) (.c (.int .i64 (-1))),none⟩] [1,4,5,7,10,11,12]
(.seq
(Sn [
mv 55 1,mv 56 11,bt 57 .lss 55 56] [1,4,5,7,10,12,57]
(Cd 57
(Rn [
ld 58 5 10,mv 59 1,ld 60 5 12,⟨some 61,.call .fp 203 [(.t 58),(.t 59),(.t 60)],none⟩] [4,5,7,10])
.skip))
(Ss [0,0,1,7,15] [
ld 62 5 10,ld 63 5 7,st 5 4 62,st 5 5 63,ic 6 0] [4,5,6]
.ret)))))))))),
[.cell 4 (some 5),.cell 5 (some 5),.tmp 6]⟩
theorem aBE:ck aI9 207:=by decide+kernel
def aJa:aI:=⟨2,
(Sn [
bx 2 0,Fl 3] [1,2]
(Sn [
fa 4 1 2,ld 5 2 4,ld 6 2 1,⟨some 7,.eqc 2 false (.t 5) (.t 6),none⟩,mv 3 7] [3]
.ret)),
[.tmp 3]⟩
theorem aBF:ck aJa 208:=by decide+kernel
def aJb:aI:=⟨1,
(Sn [
Al 2 z4] [0,2]
(Ss [0,1,0,4,15,0,63] [
mv 5 0,⟨some 6,.mks 1 [.int .i64 0] (.t 5) (.t 5),none⟩,mv 7 0,⟨some 8,.mks 1 [.bool false] (.t 7) (.t 7),none⟩,
Bu 9 z4 [(0,1,(.t 6)),(1,1,(.t 8))],Al 3 z4,st 3 3 9] [0,2,3]
(.seq
(Sn [
mv 10 0,bc 11 .sub 10 1,mv 4 11] [2,3,4]
(.block 0
(.loop [(2,none),(3,none),(4,none),(3,some 3001)]
(.seq
(Sn [
mv 12 4,bc 13 .geq 12 0] [2,3,4,13]
(Cd 13
.skip
(.exit 0)))
(.seq
(.block 1
(Rn [
fa 16 2 3,ln 17 16,mv 18 4,⟨some 19,.mkrow 1 1 [.int .i64 0] [(0,(.t 18))],none⟩,ap 20 1 17 19,fa 21 2 3,st 1 21 20] [2,3,4]))
(Rn [
mv 14 4,bc 15 .sub 14 1,mv 4 15] [2,3,4]))))))
(Sn [
ld 22 3 3,st 3 2 22] [2]
.ret)))),
[.cell 2 (some 3)]⟩
theorem aBG:ck aJb 209:=by decide+kernel
def aBH:aI:=⟨2,
(Sn [
Fl 4] [0,1]
(Sn [
mv 5 0,mv 6 1,⟨some 7,.call .shr 233 [(.t 5),(.t 6)],none⟩,bc 8 .geq 7 0,mv 4 8] [4]
.ret)),
[.tmp 4]⟩
theorem aBI:ck aBH 210:=by decide+kernel
def aBJ:aI:=⟨3,
(Sn [
Fl 4] [0,1,2]
(.seq
(Sn [
mv 5 0,bc 6 .lss 5 0,mv 7 6,Gf 7 (mv 8 0),Gf 7 (ln 9 1),Gf 7 (bt 10 .geq 8 9),fH 11 7 10,mv 12 11,Gf 12 (ln 13 2),Gf 12 (mv 14 0),
Gf 12 (ia 15 1 13 14),Gf 12 (ln 16 15),fH 17 12 16] [0,2,17]
(Cd 17
(Sn [
Tr 4] [4]
.ret)
.skip))
(Sn [
ln 18 2,mv 19 0,ia 20 1 18 19,⟨none,.store 1 (.t 20) (.c (.bool true)),none⟩] []
(Sn [
Fl 4] [4]
.ret)))),
[.tmp 4]⟩
theorem aBK:ck aBJ 211:=by decide+kernel
def aJc:aI:=⟨2,
(Sn [
Fl 4] [0,1]
(Sn [
mv 5 0,mv 6 1,p2 7 234 5 6,bc 8 .geq 7 0,mv 4 8] [4]
.ret)),
[.tmp 4]⟩
theorem aBL:ck aJc 212:=by decide+kernel
def aJd:aI:=⟨2,
(Sn [
bx 2 0,bx 3 1,Al 4 z8,ic 5 0] [2,3,4]
(.seq
(Sn [
ld 7 3 2,ld 8 3 3,Bu 9 z8 [(1,1,(.c (.int .i64 1)))],p3 10 152 7 8 9,mv 6 10] [2,3,4,6]
(Sn [
mv 11 6,bc 12 .neq 11 0] [2,3,4,6,12]
(Cd 12
(Sn [
Bu 13 z8 [],mv 14 6,st 2 4 13,mv 5 14] [4,5]
.ret)
.skip)))
(.seq
(Sn [
fa 15 2 2,ln 16 15,fa 17 2 3,ln 18 17,bt 19 .eql 16 18] [2,3,4,19]
(Cd 19
(Sn [
Bu 20 z8 [],st 2 4 20,ic 5 6] [4,5]
.ret)
.skip))
(Sn [
fa 21 1 2,ln 22 21,fa 23 1 3,ln 24 23,bt 25 .sub 22 24,fa 26 2 3,ln 27 26,fa 28 2 2,ln 29 28,bt 30 .sub 27 29,p2 31 235 25 30,ex 32 0 31,ex 33 1 31,
st 2 4 32,mv 5 33] [4,5]
.ret)))),
[.cell 4 (some 2),.tmp 5]⟩
theorem aBM:ck aJd 213:=by decide+kernel
def aJe:aI:=⟨2,
(Sn [
bx 2 0,bx 3 1,Al 4 z8] [2,3,4]
(Sn [
fa 8 1 2,ln 9 8,fa 10 1 3,ln 11 10,bt 12 .sub 9 11,fa 13 2 3,ln 14 13,fa 15 2 2,ln 16 15,bt 17 .sub 14 16,p2 18 236 12 17,mv 7 18,ex 19 0 7,
ex 20 1 7,Al 5 z8,st 2 5 19,mv 6 20] [4,5]
(Sn [
ld 21 2 5,st 2 4 21] [4]
.ret))),
[.cell 4 (some 2)]⟩
theorem aBN:ck aJe 214:=by decide+kernel
def aJf:aI:=⟨3,
(Sn [
bx 3 0,bx 4 1,bx 5 2,ic 6 0] [3,4,5]
(Ss [0,1,0,4,15,0,32,127,0,256,0,1024,3840,0,8192,32767,65535,131071,262143] [
fa 7 1 3,ln 8 7,fa 9 1 4,ln 10 9,bt 11 .sub 8 10,fa 12 1 5,ln 13 12,p2 14 142 11 13,fa 15 2 3,ln 16 15,fa 17 2 4,ln 18 17,bt 19 .sub 16 18,
fa 20 0 5,ln 21 20,p2 22 142 19 21,p2 23 237 14 22,p1 24 143 23,mv 6 24] [6]
.ret)),
[.tmp 6]⟩
theorem aBO:ck aJf 215:=by decide+kernel
def aJg:aI:=⟨1,
(Sn [
Fl 2] [0]
(Sn [
mv 3 0,mv 4 0,bt 5 .neq 3 4,mv 2 5] [2]
.ret)),
[.tmp 2]⟩
theorem aBP:ck aJg 216:=by decide+kernel
def aJh:aI:=⟨2,
(Sn [
bx 2 0,ic 4 0,ic 5 0] [1,2]
(.seq
(Sn [
ld 9 2 2,p1 10 117 9,mv 6 10] [1,2,6]
(Sn [
mv 11 6,bc 12 .neq 11 0] [1,2,6,12]
(Cd 12
(Sn [
mv 13 6,ic 4 0,mv 5 13] [4,5]
.ret)
.skip)))
(Sn [
fa 15 1 2,ln 16 15,mv 17 1,⟨some 18,.call .pur 239 [(.t 16),(.t 17),(.c (.clo 240 [] []))],none⟩,mv 14 18,ex 19 0 14,ex 20 1 14,mv 7 19,
mv 8 20] [7,8]
(.seq
(Sn [
mv 21 8,No 22 21] [7,22]
(Cd 22
(Sn [
ic 4 0,ic 5 6] [4,5]
.ret)
.skip))
(Sn [
mv 23 7,mv 4 23,ic 5 0] [4,5]
.ret))))),
[.tmp 4,.tmp 5]⟩
theorem aBQ:ck aJh 218:=by decide+kernel
def aJi:aI:=⟨3,
(Sn [
⟨some 6,.mov (.c (.sl 3 true [])),none⟩] [0,1,2]
(Sn [
mv 8 0,mv 9 1,mv 10 2,mv 11 0,le 12 11,⟨some 13,.slc 3 (.t 8) (some (.t 9)) (some (.t 10)) (some (.t 12)),none⟩] [0,1,2]
(.seq
(Sn [
mv 14 1,mv 15 2,bt 16 .eql 14 15] [0,1,2,16]
(Cd 16
(Sn [
mv 17 0,mv 6 17] [6]
.ret)
.skip))
(Sn [
mv 18 0,le 19 18,mv 7 19] [0,1,2,7]
(Ss [0,0,3,0,0,24,63,127] [
mv 20 0,mv 21 1,⟨some 22,.slc 3 (.t 20) none (some (.t 21)) none,none⟩,mv 23 0,mv 24 2,⟨some 25,.slc 3 (.t 23) (some (.t 24)) none none,none⟩,
ap 26 3 22 25,mv 0 26] [0,7]
(Sn [
mv 27 0,mv 28 0,le 29 28,mv 30 7,⟨some 31,.slc 3 (.t 27) (some (.t 29)) (some (.t 30)) none,none⟩,
⟨none,.clear 3 z5 (.t 31),none⟩] [0]
(Sn [
mv 32 0,mv 6 32] [6]
.ret))))))),
[.tmp 6]⟩
theorem aBR:ck aJi 219:=by decide+kernel
def aJj:aI:=⟨3,
(Sn [
bx 3 0] [1,2,3]
(Ss [0,1,0,0,8,0,0,64,0,448,960,0,2048,0,14336,30720,65479,131015,262143,524287] [
fa 6 3 3,ln 7 6,mv 8 1,fa 9 3 3,ln 10 9,mv 11 2,fa 12 3 3,ln 13 12,mv 14 2,ia 15 5 13 14,ld 16 5 15,fa 17 3 3,ln 18 17,mv 19 1,ia 20 5 18 19,
ld 21 5 20,ia 22 5 7 8,st 5 22 16,ia 23 5 10 11,st 5 23 21] [1,2,3]
(Rs [0,1,0,4,0,28,60,124,252,0,512,0,2048,0,14336,30720,63488,129024,0,0,522751,1571327,4194303,8388607] [
fa 24 4 3,ln 25 24,fa 26 3 3,ln 27 26,mv 28 1,ia 29 5 27 28,fa 30 3 29,fa 31 0 30,ln 32 31,fa 33 4 3,ln 34 33,fa 35 3 3,ln 36 35,mv 37 2,
ia 38 5 36 37,fa 39 3 38,fa 40 0 39,ln 41 40,mv 42 1,mv 43 2,ia 44 1 25 32,st 1 44 42,ia 45 1 34 41,st 1 45 43] []))),
[]⟩
theorem aBS:ck aJj 220:=by decide+kernel
def aJk:aI:=⟨2,
(Sn [
bx 2 0,bx 3 1,Al 4 z4] [2,3,4]
(Sn [
ld 6 3 2,⟨some 7,.call .own 133 [(.t 6)],none⟩,Al 5 z4,st 3 5 7] [3,4,5]
(Sn [
fa 8 1 5,ln 9 8,fa 10 0 3,ln 11 10,ia 12 1 9 11,⟨none,.store 1 (.t 12) (.c (.bool false)),none⟩] [3,4,5]
(Sn [
fa 13 2 5,ln 14 13,fa 15 0 3,ln 16 15,⟨some 17,.mkrow 1 1 [.int .i64 0] [(0,(.t 16))],none⟩,ap 18 1 14 17,fa 19 2 5,st 1 19 18] [4,5]
(Sn [
ld 20 3 5,st 3 4 20] [4]
.ret))))),
[.cell 4 (some 3)]⟩
theorem aBT:ck aJk 221:=by decide+kernel
def aJl:aI:=⟨2,
(Sn [
bx 2 0] [1,2]
(.block 0
(.loop [(1,none),(2,none)]
(.block 1
(Sn [
mv 5 1,⟨some 6,.bin .mul (.c (.int .i64 2)) (.t 5),none⟩,bc 7 .add 6 1,mv 4 7] [1,2,4]
(.seq
(Sn [
mv 8 4,fa 9 3 2,ln 10 9,le 11 10,bt 12 .geq 8 11] [1,2,4,12]
(Cd 12
.ret
.skip))
(.seq
(Ss [0,1,0,4,12,31,63,127,255,127,639,2047,4095,127,8319,127,57471,123007,262143,524287] [
mv 13 4,bc 14 .add 13 1,fa 15 3 2,ln 16 15,le 17 16,bt 18 .lss 14 17,mv 19 18,Gt 19 (fa 20 3 2),Gt 19 (ln 21 20),Gt 19 (mv 22 4),
Gt 19 (bc 23 .add 22 1),Gt 19 (ia 24 5 21 23),Gt 19 (ld 25 5 24),Gt 19 (fa 26 3 2),Gt 19 (ln 27 26),Gt 19 (mv 28 4),Gt 19 (ia 29 5 27 28),
Gt 19 (ld 30 5 29),Gt 19 (p2 31 173 25 30),rP 32 19 31] [1,2,4,32]
(Cd 32
(Rn [
mv 33 4,bc 34 .add 33 1,mv 4 34] [1,2,4])
.skip))
(.seq
(Ss [0,1,0,7,15,0,32,0,224,480,1023,2047] [
fa 35 3 2,ln 36 35,mv 37 4,ia 38 5 36 37,ld 39 5 38,fa 40 3 2,ln 41 40,mv 42 1,ia 43 5 41 42,ld 44 5 43,p2 45 173 39 44,No 46 45] [1,2,4,46]
(Cd 46
.ret
.skip))
(Sn [
ld 47 5 2,mv 48 1,mv 49 4,⟨some 50,.call .fp 220 [(.t 47),(.t 48),(.t 49)],none⟩] [2,4]
(Rn [
mv 51 4,mv 1 51] [1,2])))))))))),
[]⟩
theorem aBU:ck aJl 222:=by decide+kernel
def aJm:aI:=⟨2,
(Sn [
bx 2 0,ic 4 0] [1,2]
(.seq
(.block 0
(.loop [(1,none),(2,none)]
(.seq
(Ss [0,1,3,7,15,7,63,127,7,263,7,1031,3079,7943,16135,32767,65535] [
mv 5 1,bc 6 .gtr 5 0,mv 7 6,Gt 7 (fa 8 3 2),Gt 7 (ln 9 8),Gt 7 (mv 10 1),Gt 7 (ia 11 5 9 10),Gt 7 (ld 12 5 11),Gt 7 (fa 13 3 2),Gt 7 (ln 14 13),
Gt 7 (mv 15 1),Gt 7 (bc 16 .sub 15 1),Gt 7 (bc 17 .quo 16 2),Gt 7 (ia 18 5 14 17),Gt 7 (ld 19 5 18),Gt 7 (p2 20 173 12 19),rP 21 7 20] [1,2,21]
(Cd 21
.skip
(.exit 0)))
(.block 1
(Sn [
ld 22 5 2,mv 23 1,mv 24 1,bc 25 .sub 24 1,bc 26 .quo 25 2,⟨some 27,.call .fp 220 [(.t 22),(.t 23),(.t 26)],none⟩] [1,2]
(Rn [
mv 28 1,bc 29 .sub 28 1,bc 30 .quo 29 2,mv 1 30] [1,2]))))))
(Sn [
mv 31 1,mv 4 31] [4]
.ret))),
[.tmp 4]⟩
theorem aBV:ck aJm 223:=by decide+kernel
def aJn:aI:=⟨1,
(Sn [
bx 1 0,Al 2 z4,Al 3 z8] [1,2,3]
(Sn [
ld 6 3 1,⟨some 7,.call .own 133 [(.t 6)],none⟩,Al 4 z4,st 3 4 7] [2,3,4]
(Sn [
fa 8 2 4,ln 9 8,fa 10 2 4,ln 11 10,le 12 11,bc 13 .sub 12 1,ia 14 1 9 13,ln 15 14,mv 5 15] [2,3,4,5]
(Sn [
fa 16 2 4,ln 17 16,fa 18 2 4,ln 19 18,le 20 19,bc 21 .sub 20 1,⟨some 22,.slc 1 (.t 17) none (some (.t 21)) none,none⟩,fa 23 2 4,
st 1 23 22] [2,3,4,5]
(Sn [
fa 24 0 4,ln 25 24,mv 26 5,ia 27 1 25 26,ln 28 27,bc 29 .add 28 1,ia 30 1 25 26,st 1 30 29] [2,3,4,5]
(Sn [
fa 31 1 4,ln 32 31,mv 33 5,ia 34 1 32 33,⟨none,.store 1 (.t 34) (.c (.bool true)),none⟩] [2,3,4,5]
(Ss [0,0,0,4,0,28,60,126,1,511] [
ld 35 3 4,mv 36 5,fa 37 0 4,ln 38 37,mv 39 5,ia 40 1 38 39,ln 41 40,Bu 42 z8 [(0,1,(.t 36)),(1,1,(.t 41))],st 3 2 35,
st 2 3 42] [2,3]
.ret))))))),
[.cell 2 (some 3),.cell 3 (some 2)]⟩
theorem aBW:ck aJn 224:=by decide+kernel
def aJo:aI:=⟨2,
(Sn [
⟨some 4,.mov (.c (.int .u32 0)),none⟩,⟨some 5,.mov (.c (.int .u32 0)),none⟩] [0,1]
(Sn [
mv 7 0,⟨some 8,.conv .u64 (.t 7),none⟩,mv 9 1,⟨some 10,.conv .u64 (.t 9),none⟩,bt 11 .mul 8 10,mv 6 11] [6]
(Sn [
mv 12 6,⟨some 13,.bin .shr (.t 12) (.c (.int .u64 32)),none⟩,⟨some 14,.conv .u32 (.t 13),none⟩,mv 15 6,⟨some 16,.conv .u32 (.t 15),none⟩,mv 4 14,
mv 5 16] [4,5]
.ret))),
[.tmp 4,.tmp 5]⟩
theorem aBX:ck aJo 226:=by decide+kernel
def aJp:aI:=⟨2,
(Sn [
bx 2 0,bx 3 1,Fl 4,ic 5 0] [2,3]
(.seq
(Sn [
ld 7 3 2,p1 8 167 7,mv 6 8] [2,3,6]
(Sn [
mv 9 6,bc 10 .neq 9 0] [2,3,6,10]
(Cd 10
(Sn [
mv 11 6,Fl 4,mv 5 11] [4,5]
.ret)
.skip)))
(Ss [0,1,3,7,15,31,15,79,207,511,1023,2047,4095,8191,4095,20479,65535,131071,262143,524287,1048575,2097151,1048575,5242879,16777215,33554431,1048575,68157439,268435455,536870911,1073741823,2147483647] [
fa 12 0 3,ln 13 12,bc 14 .geq 13 0,mv 15 14,Gt 15 (fa 16 0 3),Gt 15 (ln 17 16),Gt 15 (fa 18 1 2),Gt 15 (ln 19 18),Gt 15 (le 20 19),
Gt 15 (bt 21 .lss 17 20),rP 22 15 21,mv 23 22,Gt 23 (fa 24 1 2),Gt 23 (ln 25 24),Gt 23 (fa 26 0 3),Gt 23 (ln 27 26),Gt 23 (ia 28 1 25 27),
Gt 23 (ln 29 28),rP 30 23 29,mv 31 30,Gt 31 (fa 32 0 2),Gt 31 (ln 33 32),Gt 31 (fa 34 0 3),Gt 31 (ln 35 34),Gt 31 (ia 36 1 33 35),Gt 31 (ln 37 36),
Gt 31 (fa 38 1 3),Gt 31 (ln 39 38),Gt 31 (bt 40 .eql 37 39),rP 41 31 40,mv 4 41,ic 5 0] [4,5]
.ret))),
[.tmp 4,.tmp 5]⟩
theorem aBY:ck aJp 227:=by decide+kernel
def aJq:aI:=⟨3,
(Sn [
bx 3 0,bx 5 2] [1,3,5]
(Rs [0,1,0,0,8,0,32,96,0,0,263,1287,4095,8191] [
fa 6 3 3,ln 7 6,mv 8 1,fa 9 4 3,ln 10 9,fa 11 3 5,fa 12 0 11,ln 13 12,ld 14 5 5,mv 15 1,ia 16 5 7 8,st 5 16 14,ia 17 1 10 13,st 1 17 15] [])),
[]⟩
theorem aBZ:ck aJq 228:=by decide+kernel
def aJr:aI:=⟨2,
(Sn [
ic 4 0] [0,1]
(.seq
(Sn [
mv 6 0,le 7 6,ic 8 0] [0,1,7,8]
(.block 0
(.loop [(0,none),(1,none),(7,none),(8,none)]
(Sn [
bt 9 .lss 8 7] [0,1,7,8,9]
(.seq
(Cd 9
.skip
(.exit 0))
(.seq
(.block 1
(Sn [
mv 10 8,mv 5 10] [0,1,5,7,8]
(Sn [
mv 11 1,mv 12 0,mv 13 5,ia 14 5 12 13,ld 15 5 14,⟨some 16,.callv (.t 11) [(.t 15)],none⟩] [0,1,5,7,8,16]
(Cd 16
(Sn [
mv 17 5,mv 4 17] [4]
.ret)
.skip))))
(Rn [
bc 18 .add 8 1,mv 8 18] [0,1,7,8])))))))
(Sn [
ic 4 (-1)] [4]
.ret))),
[.tmp 4]⟩
theorem aB0:ck aJr 229:=by decide+kernel
def aJs:aI:=⟨1,
(Sn [
⟨some 2,.mov (.c (.sl 1 true [])),none⟩,ic 3 0] [0]
(Sn [
mv 5 0,le 6 5,bc 7 .sub 6 1,mv 4 7] [0,4]
(Ss [0,0,3,7,0,0,48,112,15,511] [
mv 8 0,mv 9 4,⟨some 10,.slc 1 (.t 8) none (some (.t 9)) none,none⟩,p1 11 241 10,mv 12 0,mv 13 4,ia 14 1 12 13,ln 15 14,mv 2 11,mv 3 15] [2,3]
.ret))),
[.tmp 2,.tmp 3]⟩
theorem aB1:ck aJs 230:=by decide+kernel
def XN:aI:=⟨1,
(Sn [
bx 1 0,Al 2 z4] [1,2]
(Ss [0,1,3,0,8,31,0,64,255,511] [
fa 3 0 1,ln 4 3,p1 5 37 4,fa 6 1 1,ln 7 6,p1 8 141 7,fa 9 2 1,ln 10 9,
Bu 11 z4 [(0,1,(.t 5)),(1,1,(.t 8)),(2,1,(.t 10))],st 3 2 11] [2]
.ret)),
[.cell 2 (some 3)]⟩
theorem aB2:ck XN 231:=by decide+kernel
def aJt:aI:=⟨2,
(Sn [
bx 2 0,bx 3 1,Al 4 z4,ic 5 0] [2,3,4]
(Sn [
ld 10 3 2,ld 11 2 3,p2 12 227 10 11,mv 9 12,ex 13 0 9,ex 14 1 9,mv 6 13,mv 7 14] [2,3,4,6,7]
(.seq
(Sn [
mv 15 7,bc 16 .neq 15 0] [2,3,4,6,7,16]
(Cd 16
(Sn [
Bu 17 z4 [],mv 18 7,st 3 4 17,mv 5 18] [4,5]
.ret)
.skip))
(.seq
(Sn [
mv 19 6,No 20 19] [2,3,4,20]
(Cd 20
(Sn [
Bu 21 z4 [],st 3 4 21,ic 5 6] [4,5]
.ret)
.skip))
(Sn [
ld 22 3 2,⟨some 23,.call .shr 231 [(.t 22)],none⟩,Al 8 z4,st 3 8 23] [2,3,4,8]
(Ss [0,1,0,4,0,16,0,64,240,499,1011,2047,4095] [
fa 24 1 8,ln 25 24,fa 26 0 3,ln 27 26,fa 28 2 2,ln 29 28,fa 30 0 3,ln 31 30,p2 32 242 29 31,fa 33 2 8,st 1 33 32,ia 34 1 25 27,
⟨none,.store 1 (.t 34) (.c (.bool false)),none⟩] [4,8]
(Sn [
ld 35 3 8,st 3 4 35,ic 5 0] [4,5]
.ret))))))),
[.cell 4 (some 3),.tmp 5]⟩
theorem aB3:ck aJt 232:=by decide+kernel
def aB4:aI:=⟨2,
(Sn [
ic 4 0] [0,1]
(.seq
(Sn [
mv 6 0,le 7 6,ic 8 0] [0,1,7,8]
(.block 0
(.loop [(0,none),(1,none),(7,none),(8,none)]
(Sn [
bt 9 .lss 8 7] [0,1,7,8,9]
(.seq
(Cd 9
.skip
(.exit 0))
(.seq
(.block 1
(Sn [
mv 10 8,mv 5 10] [0,1,5,7,8]
(Sn [
mv 11 1,mv 12 0,mv 13 5,ia 14 1 12 13,ln 15 14,⟨some 16,.callv (.t 11) [(.t 15)],none⟩] [0,1,5,7,8,16]
(Cd 16
(Sn [
mv 17 5,mv 4 17] [4]
.ret)
.skip))))
(Rn [
bc 18 .add 8 1,mv 8 18] [0,1,7,8])))))))
(Sn [
ic 4 (-1)] [4]
.ret))),
[.tmp 4]⟩
theorem aB5:ck aB4 233:=by decide+kernel
def aJu:aI:=⟨2,
(Sn [
ic 4 0] [0,1]
(.seq
(Sn [
mv 6 0,le 7 6,ic 8 0] [0,1,7,8]
(.block 0
(.loop [(0,none),(1,none),(7,none),(8,none)]
(Sn [
bt 9 .lss 8 7] [0,1,7,8,9]
(.seq
(Cd 9
.skip
(.exit 0))
(.seq
(.block 1
(Sn [
mv 10 8,mv 5 10] [0,1,5,7,8]
(Sn [
mv 11 1,mv 12 0,mv 13 5,ia 14 1 12 13,ln 15 14,⟨some 16,.binb false (.t 11) (.t 15),none⟩] [0,1,5,7,8,16]
(Cd 16
(Sn [
mv 17 5,mv 4 17] [4]
.ret)
.skip))))
(Rn [
bc 18 .add 8 1,mv 8 18] [0,1,7,8])))))))
(Sn [
ic 4 (-1)] [4]
.ret))),
[.tmp 4]⟩
theorem aB6:ck aJu 234:=by decide+kernel
def aJv:aI:=⟨2,
(Sn [
Al 4 z8,ic 5 0] [0,1,4]
(.seq
(Sn [
mv 7 1,bc 8 .eql 7 0] [0,1,4,8]
(Cd 8
(Sn [
Bu 9 z8 [],st 2 4 9,ic 5 26] [4,5]
.ret)
.skip))
(Sn [
mv 10 0,p1 11 76 10,mv 12 1,p1 13 76 12,p2 14 75 11 13,mv 6 14] [0,1,4,6]
(Ss [0,1,0,4,15,0,32,0,224,511,0,1120,0,7264,16383,32767,32767,131071,262143] [
mv 15 0,bc 16 .lss 15 0,mv 17 1,bc 18 .lss 17 0,⟨some 19,.binb true (.t 16) (.t 18),none⟩,mv 20 0,p1 21 76 20,mv 22 6,bt 23 .quo 21 22,
Bu 24 z6 [(0,1,(.t 19)),(1,1,(.c (.int .u64 0))),(2,1,(.t 23))],mv 25 1,p1 26 76 25,mv 27 6,bt 28 .quo 26 27,
⟨some 29,.call .pur 243 [(.t 24),(.c (.int .u64 0)),(.t 28)],none⟩,ex 30 0 29,ex 31 1 29,st 2 4 30,mv 5 31] [4,5]
.ret)))),
[.cell 4 (some 2),.tmp 5]⟩
theorem aB7:ck aJv 235:=by decide+kernel
def aJw:aI:=⟨2,
(Sn [
Al 4 z8,ic 5 0] [0,1,4]
(.seq
(Sn [
mv 7 1,bc 8 .eql 7 0] [0,1,4,8]
(Cd 8
(Sn [
Bu 9 z8 [],st 2 4 9,ic 5 26] [4,5]
.ret)
.skip))
(Sn [
mv 10 0,p1 11 114 10,mv 12 1,p1 13 114 12,p2 14 113 11 13,mv 6 14] [0,1,4,6]
(Ss [0,1,0,4,15,31,63,127,255,0,575,0,3647,7743,0,17983,0,116287,247359,524287,1048575,1048575,4194303,8388607] [
mv 15 0,bc 16 .lss 15 0,mv 17 1,bc 18 .lss 17 0,⟨some 19,.binb true (.t 16) (.t 18),none⟩,mv 20 19,Gt 20 (mv 21 0),Gt 20 (bc 22 .neq 21 0),
rP 23 20 22,mv 24 0,p1 25 114 24,mv 26 6,bt 27 .quo 25 26,Bu 28 z6 [(2,1,(.t 27))],mv 29 1,p1 30 114 29,mv 31 6,
bt 32 .quo 30 31,Bu 33 z6 [(2,1,(.t 32))],p3 34 244 23 28 33,ex 35 0 34,ex 36 1 34,st 2 4 35,mv 5 36] [4,5]
.ret)))),
[.cell 4 (some 2),.tmp 5]⟩
theorem aB8:ck aJw 236:=by decide+kernel
def aJx:aI:=⟨2,
(Sn [
bx 2 0,bx 3 1,Al 4 z6] [2,3,4]
(.seq
(Sn [
fa 8 0 2,ln 9 8,fa 10 0 3,ln 11 10,⟨some 12,.binb false (.t 9) (.t 11),none⟩] [2,3,4,12]
(Cd 12
(Sn [
fa 13 0 2,ln 14 13,fa 15 1 2,ln 16 15,fa 17 1 3,ln 18 17,bt 19 .add 16 18,fa 20 2 2,ln 21 20,fa 22 2 3,ln 23 22,bt 24 .add 21 23,
Bu 25 z6 [(0,1,(.t 14)),(1,1,(.t 19)),(2,1,(.t 24))],Al 5 z6,
st 3 5 25] [2,4,5]
(.seq
(Sn [
fa 26 2 5,ln 27 26,fa 28 2 2,ln 29 28,bt 30 .lss 27 29] [4,5,30]
(Cd 30
(Rn [
fa 31 1 5,ln 32 31,⟨some 33,.bin .add (.t 32) (.c (.int .u64 1)),none⟩,fa 34 1 5,st 1 34 33] [4,5])
.skip))
(Sn [
ld 35 3 5,st 3 4 35] [4]
.ret)))
.skip))
(.seq
(Sn [
ld 36 3 2,ld 37 3 3,p2 38 144 36 37,bc 39 .geq 38 0] [2,3,4,39]
(Cd 39
(Sn [
ld 40 3 2,ld 41 3 3,p2 42 245 40 41,Al 6 z6,st 3 6 42] [2,4,6]
(Sn [
fa 43 0 2,ln 44 43,mv 45 44,Gt 45 (fa 46 1 6),Gt 45 (ln 47 46),Gt 45 (⟨some 48,.bin .gtr (.t 47) (.c (.int .u64 0)),none⟩),Gt 45 (mv 49 48),
Gf 49 (fa 50 2 6),Gf 49 (ln 51 50),Gf 49 (⟨some 52,.bin .gtr (.t 51) (.c (.int .u64 0)),none⟩),Gt 45 (fH 53 49 52),rP 54 45 53,fa 55 0 6,
st 1 55 54] [4,6]
(Sn [
ld 56 3 6,st 3 4 56] [4]
.ret)))
.skip))
(Sn [
ld 57 3 3,ld 58 3 2,p2 59 245 57 58,Al 7 z6,st 3 7 59] [3,4,7]
(Sn [
fa 60 0 3,ln 61 60,fa 62 0 7,st 1 62 61] [4,7]
(Sn [
ld 63 3 7,st 3 4 63] [4]
.ret)))))),
[.cell 4 (some 3)]⟩
theorem aB9:ck aJx 237:=by decide+kernel
def aJy:aI:=⟨3,
(Sn [
ic 6 0,Fl 7] [0,1,2]
(Sn [
mv 12 0,le 13 12,mv 8 13] [0,1,2,8]
(Sn [
mv 14 8,ic 9 0,mv 10 14] [0,1,2,8,9,10]
(.seq
(.block 0
(.loop [(0,none),(1,none),(2,none),(8,none),(9,none),(10,none)]
(.seq
(Sn [
mv 15 9,mv 16 10,bt 17 .lss 15 16] [0,1,2,8,9,10,17]
(Cd 17
.skip
(.exit 0)))
(.block 1
(Sn [
mv 18 9,mv 19 10,bt 20 .add 18 19,⟨some 21,.conv .u64 (.t 20),none⟩,⟨some 22,.bin .shr (.t 21) (.c (.int .u64 1)),none⟩,
⟨some 23,.conv .i64 (.t 22),none⟩,mv 11 23] [0,1,2,8,9,10,11]
(Sn [
mv 24 2,mv 25 0,mv 26 11,ia 27 3 25 26,ld 28 3 27,mv 29 1,⟨some 30,.callv (.t 24) [(.t 28),(.t 29)],none⟩,bc 31 .lss 30 0] [0,1,2,8,9,10,11,31]
(Cd 31
(Rn [
mv 32 11,bc 33 .add 32 1,mv 9 33] [0,1,2,8,9,10])
(Rn [
mv 34 11,mv 10 34] [0,1,2,8,9,10]))))))))
(Sn [
mv 35 9,mv 36 9,mv 37 8,bt 38 .lss 36 37,mv 39 38,Gt 39 (mv 40 2),Gt 39 (mv 41 0),Gt 39 (mv 42 9),Gt 39 (ia 43 3 41 42),Gt 39 (ld 44 3 43),
Gt 39 (mv 45 1),Gt 39 (⟨some 46,.callv (.t 40) [(.t 44),(.t 45)],none⟩),Gt 39 (bc 47 .eql 46 0),rP 48 39 47,mv 6 35,mv 7 48] [6,7]
.ret))))),
[.tmp 6,.tmp 7]⟩
theorem aCa:ck aJy 239:=by decide+kernel
def aJz:aI:=⟨2,
(Sn [
bx 2 0,ic 4 0] [1,2]
(Sn [
fa 5 0 2,ln 6 5,mv 7 1,p2 8 180 6 7,mv 4 8] [4]
.ret)),
[.tmp 4]⟩
theorem aCb:ck aJz 240:=by decide+kernel
def aJA:aI:=⟨2,
(Sn [
⟨some 4,.mov (.c (.sl 1 true [])),none⟩] [0,1]
(Sn [
mv 5 0,p1 6 241 5,mv 7 1,⟨some 8,.mkrow 1 1 [.int .i64 0] [(0,(.t 7))],none⟩,ap 9 1 6 8,mv 4 9] [4]
.ret)),
[.tmp 4]⟩
theorem aCc:ck aJA 242:=by decide+kernel
def aJB:aI:=⟨3,
(Sn [
bx 3 0,Al 6 z8,ic 7 0] [1,2,3,6]
(.seq
(Sn [
fa 9 1 3,ln 10 9,⟨some 11,.bin .gtr (.t 10) (.c (.int .u64 0)),none⟩,mv 12 11,Gf 12 (fa 13 2 3),Gf 12 (ln 14 13),
Gf 12 (⟨some 15,.bin .gtr (.t 14) (.c (.int .u64 9223372036854775807)),none⟩),fH 16 12 15,mv 17 16,Gf 17 (mv 18 1),
Gf 17 (⟨some 19,.bin .gtr (.t 18) (.c (.int .u64 0)),none⟩),fH 20 17 19,mv 21 20,Gf 21 (mv 22 2),
Gf 21 (⟨some 23,.bin .gtr (.t 22) (.c (.int .u64 9223372036854775807)),none⟩),fH 24 21 23] [2,3,6,24]
(Cd 24
(Sn [
Bu 25 z8 [],st 2 6 25,ic 7 16] [6,7]
.ret)
.skip))
(Sn [
fa 26 2 3,ln 27 26,⟨some 28,.conv .i64 (.t 27),none⟩,mv 29 2,⟨some 30,.conv .i64 (.t 29),none⟩,
Bu 31 z8 [(0,1,(.t 28)),(1,1,(.t 30))],Al 8 z8,st 2 8 31] [3,6,8]
(.seq
(Sn [
fa 32 0 3,ln 33 32] [6,8,33]
(Cd 33
(Rn [
fa 34 0 8,ln 35 34,⟨some 36,.un .neg (.t 35),none⟩,fa 37 0 8,st 1 37 36] [6,8])
.skip))
(Sn [
ld 38 2 8,st 2 6 38,ic 7 0] [6,7]
.ret))))),
[.cell 6 (some 2),.tmp 7]⟩
theorem aCd:ck aJB 243:=by decide+kernel
def aJC:aI:=⟨3,
(Sn [
bx 4 1,bx 5 2,Al 6 z8,ic 7 0] [0,4,5,6]
(.seq
(Sn [
fa 8 1 4,ln 9 8,⟨some 10,.bin .gtr (.t 9) (.c (.int .u64 0)),none⟩,mv 11 10,Gf 11 (fa 12 2 4),Gf 11 (ln 13 12),
Gf 11 (⟨some 14,.bin .gtr (.t 13) (.c (.int .u64 9223372036854775807)),none⟩),fH 15 11 14,mv 16 15,Gf 16 (fa 17 1 5),Gf 16 (ln 18 17),
Gf 16 (⟨some 19,.bin .gtr (.t 18) (.c (.int .u64 0)),none⟩),fH 20 16 19,mv 21 20,Gf 21 (fa 22 2 5),Gf 21 (ln 23 22),
Gf 21 (⟨some 24,.bin .gtr (.t 23) (.c (.int .u64 9223372036854775807)),none⟩),fH 25 21 24] [0,4,5,6,25]
(Cd 25
(Sn [
Bu 26 z8 [],st 2 6 26,ic 7 16] [6,7]
.ret)
.skip))
(.seq
(Sn [
mv 27 0] [4,5,6,27]
(Cd 27
(Sn [
fa 28 2 4,ln 29 28,⟨some 30,.conv .i64 (.t 29),none⟩,⟨some 31,.un .neg (.t 30),none⟩,fa 32 2 5,ln 33 32,⟨some 34,.conv .i64 (.t 33),none⟩,
Bu 35 z8 [(0,1,(.t 31)),(1,1,(.t 34))],st 2 6 35,ic 7 0] [6,7]
.ret)
.skip))
(Sn [
fa 36 2 4,ln 37 36,⟨some 38,.conv .i64 (.t 37),none⟩,fa 39 2 5,ln 40 39,⟨some 41,.conv .i64 (.t 40),none⟩,
Bu 42 z8 [(0,1,(.t 38)),(1,1,(.t 41))],st 2 6 42,ic 7 0] [6,7]
.ret)))),
[.cell 6 (some 2),.tmp 7]⟩
theorem aCe:ck aJC 244:=by decide+kernel
def aJD:aI:=⟨2,
(Sn [
bx 2 0,bx 3 1,Al 4 z6] [2,3,4]
(Sn [
fa 6 1 2,ln 7 6,fa 8 1 3,ln 9 8,bt 10 .sub 7 9,fa 11 2 2,ln 12 11,fa 13 2 3,ln 14 13,bt 15 .sub 12 14,
Bu 16 z6 [(1,1,(.t 10)),(2,1,(.t 15))],Al 5 z6,st 3 5 16] [2,3,4,5]
(.seq
(Sn [
fa 17 2 2,ln 18 17,fa 19 2 3,ln 20 19,bt 21 .lss 18 20] [4,5,21]
(Cd 21
(Rn [
fa 22 1 5,ln 23 22,⟨some 24,.bin .sub (.t 23) (.c (.int .u64 1)),none⟩,fa 25 1 5,st 1 25 24] [4,5])
.skip))
(Sn [
ld 26 3 5,st 3 4 26] [4]
.ret)))),
[.cell 4 (some 3)]⟩
theorem aCf:ck aJD 245:=by decide+kernel
end Go.Proofs.YtmlghnibpjlchaaGreat
