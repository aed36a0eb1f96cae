/- Functions of the seat as the logical machine runs them, and the look at each of them (2). Printed by a program. -/
import Derived.Test.YtjikemfbommnlaaGreatRVm2
import Derived.Test.YtjikemfbommnlaaGreatRQX1
import Derived.Test.YtjikemfbommnlaaGreatProg
set_option maxRecDepth 100000
namespace Go.Proofs.YtjikemfbommnlaaGreat
open Go.Vm
def x88:XFunc:=⟨2,
(Sn [
bx 2 0,bx 3 1,Fl 4] [2,3]
(Ss [0,1,3,7,15,31,15,79,207,511,1023,2047,4095,8191,4095,20479,65535,131071,262143,524287,1048575,2097151,1048575,5242879,16777215,33554431,1048575,68157439,268435455,536870911,1073741823] [
fa 5 0 3,ln 6 5,bc 7 .geq 6 0,mv 8 7,Gt 8 (fa 9 0 3),Gt 8 (ln 10 9),Gt 8 (fa 11 0 2),Gt 8 (ln 12 11),Gt 8 (le 13 12),Gt 8 (bt 14 .lss 10 13),
pan 15 8 14,mv 16 15,Gt 16 (fa 17 1 2),Gt 16 (ln 18 17),Gt 16 (fa 19 0 3),Gt 16 (ln 20 19),Gt 16 (ia 21 1 18 20),Gt 16 (ln 22 21),pan 23 16 22,
mv 24 23,Gt 24 (fa 25 0 2),Gt 24 (ln 26 25),Gt 24 (fa 27 0 3),Gt 24 (ln 28 27),Gt 24 (ia 29 1 26 28),Gt 24 (ln 30 29),Gt 24 (fa 31 1 3),
Gt 24 (ln 32 31),Gt 24 (bt 33 .eql 30 32),pan 34 24 33,mv 4 34] [4]
.ret)),
[.tmp 4]⟩
theorem x88_ok:ck x88 88:=by decide+kernel
def x89:XFunc:=⟨2,
(Sn [
bx 2 0,Al 4 z6] [1,2,4]
(Sn [
fa 7 0 2,ln 8 7,Bu 9 z6 [(0,1,(.t 8))],Al 5 z6,st 2 5 9] [1,2,4,5]
(.seq
(Sn [
ic 6 0] [1,2,4,5,6]
(.block 0
(.loop [(1,none),(2,none),(4,none),(5,none),(6,none),(5,some 2003)]
(.seq
(Sn [
mv 10 6,fa 11 1 2,ln 12 11,le 13 12,bt 14 .lss 10 13] [1,2,4,5,6,14]
(Cd 14
.skip
(.exit 0)))
(.seq
(.block 1
(Sn [
fa 17 1 2,ln 18 17,mv 19 6,ia 20 3 18 19,fa 21 0 20,ln 22 21,mv 23 1,bt 24 .neq 22 23] [1,2,4,5,6,24]
(Cd 24
(Rs [0,1,0,4,0,28,60,124,255,511,1023] [
fa 25 1 5,ln 26 25,fa 27 1 2,ln 28 27,mv 29 6,ia 30 3 28 29,ld 31 3 30,
⟨some 32,.mkrow 3 1 z4 [(0,(.t 31))],none⟩,ap 33 3 26 32,fa 34 1 5,st 1 34 33] [1,2,4,5,6])
.skip)))
(Rn [
mv 15 6,bc 16 .add 15 1,mv 6 16] [1,2,4,5,6]))))))
(Sn [
ld 35 2 5,st 2 4 35] [4]
.ret)))),
[.cell 4 (some 2)]⟩
theorem x89_ok:ck x89 89:=by decide+kernel
def x90:XFunc:=⟨2,
(Sn [
bx 2 0,ic 4 0] [1,2]
(.seq
(Sn [
ic 5 0] [1,2,5]
(.block 0
(.loop [(1,none),(2,none),(5,none)]
(.seq
(Sn [
mv 6 5,fa 7 10 2,ln 8 7,le 9 8,bt 10 .lss 6 9] [1,2,5,10]
(Cd 10
.skip
(.exit 0)))
(.seq
(.block 1
(Sn [
fa 13 10 2,ln 14 13,mv 15 5,ia 16 3 14 15,fa 17 0 16,ln 18 17,mv 19 1,bt 20 .eql 18 19] [1,2,5,20]
(Cd 20
(Sn [
mv 21 5,mv 4 21] [4]
.ret)
.skip)))
(Rn [
mv 11 5,bc 12 .add 11 1,mv 5 12] [1,2,5]))))))
(Sn [
ic 4 (-1)] [4]
.ret))),
[.tmp 4]⟩
theorem x90_ok:ck x90 90:=by decide+kernel
def x91:XFunc:=⟨2,
(Sn [
bx 2 0,bx 3 1,Al 4 z1] [2,3,4]
(Sn [
ld 8 5 2,⟨some 9,.call .own 13 [(.t 8)],none⟩,Al 5 z1,st 5 5 9] [3,4,5]
(Ss [0,1,0,4,15,31,0,64,192,448,63,2047] [
fa 10 4 5,ln 11 10,fa 12 0 3,ln 13 12,ia 14 1 11 13,ln 15 14,fa 16 3 5,ln 17 16,le 18 17,bc 19 .sub 18 1,mv 6 15,mv 7 19] [3,4,5,6,7]
(.seq
(Sn [
mv 20 6,mv 21 7,bt 22 .neq 20 21] [3,4,5,6,7,22]
(Cd 22
(Rn [
ld 23 5 5,mv 24 6,mv 25 7,⟨some 26,.call .fp 124 [(.t 23),(.t 24),(.t 25)],none⟩] [3,4,5,6,7])
.skip))
(Sn [
fa 27 3 5,ln 28 27,mv 29 7,⟨some 30,.slc 5 (.t 28) none (some (.t 29)) none,none⟩,fa 31 3 5,st 1 31 30] [3,4,5,6,7]
(Sn [
fa 32 4 5,ln 33 32,fa 34 0 3,ln 35 34,ia 36 1 33 35,⟨none,.store 1 (.t 36) (.c (.int .i64 (-1))),none⟩] [3,4,5,6,7]
(Sn [
fa 37 0 5,ld 38 3 37,ld 39 2 3,p2 40 125 38 39,fa 41 0 5,st 3 41 40] [4,5,6,7]
(.seq
(Sn [
mv 42 6,mv 43 7,bt 44 .neq 42 43] [4,5,6,44]
(Cd 44
(Rs [0,0,0,6,15] [
ld 45 5 5,ld 46 5 5,mv 47 6,⟨some 48,.call .fp 127 [(.t 46),(.t 47)],none⟩,⟨some 49,.call .fp 126 [(.t 45),(.t 48)],none⟩] [4,5])
.skip))
(Sn [
ld 50 5 5,st 5 4 50] [4]
.ret))))))))),
[.cell 4 (some 5)]⟩
theorem x91_ok:ck x91 91:=by decide+kernel
def x92:XFunc:=⟨3,
(Sn [
bx 3 0,bx 4 1,bx 5 2,Al 6 z1] [3,4,5,6]
(Sn [
ld 9 5 3,⟨some 10,.call .own 13 [(.t 9)],none⟩,Al 7 z1,st 5 7 10] [4,5,6,7]
(Sn [
fa 11 4 7,ln 12 11,fa 13 0 4,ln 14 13,ia 15 1 12 14,ln 16 15,mv 8 16] [5,6,7,8]
(Sn [
fa 17 3 7,ln 18 17,mv 19 8,ld 20 2 5,ia 21 5 18 19,fa 22 0 21,st 2 22 20] [6,7,8]
(Ss [0,0,0,6,15] [
ld 23 5 7,ld 24 5 7,mv 25 8,⟨some 26,.call .fp 127 [(.t 24),(.t 25)],none⟩,⟨some 27,.call .fp 126 [(.t 23),(.t 26)],none⟩] [6,7]
(Sn [
ld 28 5 7,st 5 6 28] [6]
.ret)))))),
[.cell 6 (some 5)]⟩
theorem x92_ok:ck x92 92:=by decide+kernel
def x93:XFunc:=⟨1,
(Sn [
bx 1 0,Fl 2] [1]
(Sn [
fa 4 2 1,ln 5 4,le 6 5,mv 3 6] [1,3]
(Ss [0,1,3,7,15,7,39,7,135,487,999,2047,4095,8191,16383,32767] [
mv 7 3,bc 8 .gtr 7 0,mv 9 8,Gt 9 (fa 10 0 1),Gt 9 (ln 11 10),Gt 9 (fa 12 2 1),Gt 9 (ln 13 12),Gt 9 (mv 14 3),Gt 9 (bc 15 .sub 14 1),
Gt 9 (ia 16 1 13 15),Gt 9 (ln 17 16),Gt 9 (ia 18 1 11 17),Gt 9 (ln 19 18),Gt 9 (bc 20 .lss 19 1000000),pan 21 9 20,mv 2 21] [2]
.ret))),
[.tmp 2]⟩
theorem x93_ok:ck x93 93:=by decide+kernel
def x94:XFunc:=⟨3,
(Sn [
bx 3 0,bx 4 1,Al 6 z1,Al 7 z7] [2,3,4,6,7]
(Sn [
ld 11 5 3,⟨some 12,.call .own 13 [(.t 11)],none⟩,Al 8 z1,
st 5 8 12] [2,4,6,7,8]
(Sn [
fa 14 0 8,ld 15 3 14,p1 16 128 15,mv 13 16,ex 17 0 13,ex 18 1 13,Al 9 z3,Al 10 z7,
st 3 9 17,st 2 10 18] [2,4,6,7,8,9,10]
(Sn [
ld 19 3 9,fa 20 0 8,st 3 20 19] [2,4,6,7,8,10]
(Sn [
fa 21 3 8,ln 22 21,ld 23 2 4,mv 24 2,ld 25 2 10,
Bu 26 z2 [(0,2,(.t 23)),(2,1,(.t 24)),(3,2,(.t 25))],
⟨some 27,.mkrow 5 1 z2 [(0,(.t 26))],none⟩,ap 28 5 22 27,fa 29 3 8,
st 1 29 28] [6,7,8,10]
(Sn [
fa 30 4 8,ln 31 30,fa 32 0 10,ln 33 32,fa 34 3 8,ln 35 34,le 36 35,bc 37 .sub 36 1,ia 38 1 31 33,st 1 38 37] [6,7,8,10]
(Sn [
ld 39 5 8,fa 40 3 8,ln 41 40,le 42 41,bc 43 .sub 42 1,⟨some 44,.call .fp 127 [(.t 39),(.t 43)],none⟩] [6,7,8,10]
(Ss [0,0,1,7] [
ld 45 5 8,ld 46 2 10,st 5 6 45,st 2 7 46] [6,7]
.ret)))))))),
[.cell 6 (some 5),.cell 7 (some 2)]⟩
theorem x94_ok:ck x94 94:=by decide+kernel
def x95:XFunc:=⟨2,
(Sn [
bx 2 0,bx 3 1,Al 4 z6,ic 5 0,ic 6 0] [2,3,4]
(.seq
(Sn [
ld 8 2 2,p1 9 49 8,bc 10 .neq 9 0,mv 11 10,Gf 11 (ld 12 2 3),Gf 11 (p1 13 55 12),Gf 11 (No 14 13),por 15 11 14] [2,3,4,15]
(Cd 15
(Sn [
Bu 16 z6 [],st 2 4 16,ic 5 0,ic 6 8] [4,5,6]
.ret)
.skip))
(.seq
(Sn [
ld 17 2 2,ld 18 2 3,p2 19 60 17 18] [2,3,4,19]
(Cd 19
(Sn [
Bu 20 z6 [],st 2 4 20,ic 5 0,ic 6 14] [4,5,6]
.ret)
.skip))
(.seq
(Sn [
fa 21 1 2,ln 22 21,le 23 22,bc 24 .eql 23 200,mv 25 24,Gf 25 (fa 26 0 2),Gf 25 (ln 27 26),Gf 25 (bc 28 .eql 27 1000000),por 29 25 28] [2,3,4,29]
(Cd 29
(Sn [
Bu 30 z6 [],st 2 4 30,ic 5 0,ic 6 18] [4,5,6]
.ret)
.skip))
(Sn [
ld 31 2 2,⟨some 32,.call .own 12 [(.t 31)],none⟩,Al 7 z6,st 2 7 32] [2,3,4,7]
(Sn [
fa 33 1 7,ln 34 33,fa 35 0 2,ln 36 35,ld 37 2 3,Bu 38 z4 [(0,1,(.t 36)),(1,2,(.t 37))],
⟨some 39,.mkrow 3 1 z4 [(0,(.t 38))],none⟩,ap 40 3 34 39,fa 41 1 7,st 1 41 40] [2,4,7]
(Sn [
fa 42 0 7,ln 43 42,bc 44 .add 43 1,fa 45 0 7,st 1 45 44] [2,4,7]
(Ss [0,0,2,1,15,31] [
ld 46 2 7,fa 47 0 2,ln 48 47,st 2 4 46,mv 5 48,ic 6 0] [4,5,6]
.ret)))))))),
[.cell 4 (some 2),.tmp 5,.tmp 6]⟩
theorem x95_ok:ck x95 95:=by decide+kernel
def x96:XFunc:=⟨2,
(Sn [
Fl 4] [0,1]
(.seq
(Sn [
mv 6 0,le 7 6,mv 8 1,le 9 8,bt 10 .neq 7 9] [0,1,10]
(Cd 10
(Sn [
Fl 4] [4]
.ret)
.skip))
(.seq
(Sn [
ic 5 0] [0,1,5]
(.block 0
(.loop [(0,none),(1,none),(5,none)]
(.seq
(Sn [
mv 11 5,mv 12 0,le 13 12,bt 14 .lss 11 13] [0,1,5,14]
(Cd 14
.skip
(.exit 0)))
(.seq
(.block 1
(Ss [0,0,3,7,0,0,48,112,255] [
mv 17 0,mv 18 5,ia 19 1 17 18,ln 20 19,mv 21 1,mv 22 5,ia 23 1 21 22,ln 24 23,⟨some 25,.binb true (.t 20) (.t 24),none⟩] [0,1,5,25]
(Cd 25
(Sn [
Fl 4] [4]
.ret)
.skip)))
(Rn [
mv 15 5,bc 16 .add 15 1,mv 5 16] [0,1,5]))))))
(Sn [
Tr 4] [4]
.ret)))),
[.tmp 4]⟩
theorem x96_ok:ck x96 96:=by decide+kernel
def x97:XFunc:=⟨2,
(Sn [
Fl 4] [0,1]
(Sn [
mv 5 0,mv 6 1,⟨some 7,.call .shr 129 [(.t 5),(.t 6)],none⟩,bc 8 .geq 7 0,mv 4 8] [4]
.ret)),
[.tmp 4]⟩
theorem x97_ok:ck x97 97:=by decide+kernel
def x98:XFunc:=⟨3,
(Sn [
Fl 4] [0,1,2]
(.seq
(Sn [
mv 5 0,bc 6 .lss 5 0,mv 7 6,Gf 7 (mv 8 0),Gf 7 (ln 9 1),Gf 7 (bt 10 .geq 8 9),por 11 7 10,mv 12 11,Gf 12 (ln 13 2),Gf 12 (mv 14 0),
Gf 12 (ia 15 1 13 14),Gf 12 (ln 16 15),por 17 12 16] [0,2,17]
(Cd 17
(Sn [
Tr 4] [4]
.ret)
.skip))
(Sn [
ln 18 2,mv 19 0,ia 20 1 18 19,⟨none,.store 1 (.t 20) (.c (.bool true)),none⟩] []
(Sn [
Fl 4] [4]
.ret)))),
[.tmp 4]⟩
theorem x98_ok:ck x98 98:=by decide+kernel
def x99:XFunc:=⟨2,
(Sn [
Fl 4] [0,1]
(Sn [
mv 5 0,mv 6 1,p2 7 130 5 6,bc 8 .geq 7 0,mv 4 8] [4]
.ret)),
[.tmp 4]⟩
theorem x99_ok:ck x99 99:=by decide+kernel
def x100:XFunc:=⟨2,
(Sn [
bx 2 0,bx 3 1,ic 4 0,ic 5 0] [2,3]
(.seq
(Sn [
ld 8 2 2,ld 9 2 3,p2 10 131 8 9,mv 6 10] [2,3,6]
(Sn [
mv 11 6,bc 12 .neq 11 0] [2,3,6,12]
(Cd 12
(Sn [
mv 13 6,ic 4 0,mv 5 13] [4,5]
.ret)
.skip)))
(.seq
(Sn [
fa 14 0 2,ln 15 14,bc 16 .lss 15 0,fa 17 0 3,ln 18 17,bc 19 .lss 18 0,⟨some 20,.binb true (.t 16) (.t 19),none⟩] [2,3,20]
(Cd 20
(Sn [
fa 21 0 2,ln 22 21,fa 23 0 3,ln 24 23,p2 25 132 22 24,mv 4 25,ic 5 0] [4,5]
.ret)
.skip))
(Ss [0,1,0,4,15,0,32,0,128,511,1023,2047] [
fa 26 0 2,ln 27 26,fa 28 1 3,ln 29 28,p2 30 134 27 29,fa 31 0 3,ln 32 31,fa 33 1 2,ln 34 33,p2 35 134 32 34,p2 36 133 30 35,mv 7 36] [2,7]
(.seq
(Sn [
fa 37 0 2,ln 38 37,bc 39 .lss 38 0] [7,39]
(Cd 39
(Rn [
mv 40 7,⟨some 41,.un .neg (.t 40),none⟩,mv 7 41] [7])
.skip))
(Sn [
mv 42 7,mv 4 42,ic 5 0] [4,5]
.ret)))))),
[.tmp 4,.tmp 5]⟩
theorem x100_ok:ck x100 100:=by decide+kernel
def x101:XFunc:=⟨1,
(Sn [
ic 2 0] [0]
(Sn [
ic 3 0] [0,3]
(.seq
(Sn [
mv 6 0,le 7 6,ic 8 0] [3,6,7,8]
(.block 0
(.loop [(3,none),(6,none),(7,none),(8,none)]
(Sn [
bt 9 .lss 8 7] [3,6,7,8,9]
(.seq
(Cd 9
.skip
(.exit 0))
(.seq
(.block 1
(Sn [
ia 10 1 6 8,ln 11 10,mv 5 11] [3,5,6,7,8]
(Sn [
mv 12 5,mv 13 3,bt 14 .neq 12 13] [3,5,6,7,8,14]
(Cd 14
(Sn [
mv 15 5,mv 2 15] [2]
.ret)
.skip))))
(Rn [
bc 16 .add 8 1,mv 8 16] [3,6,7,8])))))))
(Sn [
mv 17 3,mv 2 17] [2]
.ret)))),
[.tmp 2]⟩
theorem x101_ok:ck x101 101:=by decide+kernel
def x102:XFunc:=⟨2,
(Sn [
ic 4 0] [0,1]
(Sn [
mv 7 0,p1 8 135 7,mv 5 8] [0,1,5]
(Sn [
mv 9 1,p1 10 135 9,mv 6 10] [0,1,5,6]
(.seq
(Sn [
mv 11 5] [0,1,6,11]
(Cd 11
(.seq
(Sn [
mv 12 6] [12]
(Cd 12
(Sn [
ic 4 0] [4]
.ret)
.skip))
(Sn [
ic 4 (-1)] [4]
.ret))
.skip))
(.seq
(Sn [
mv 13 6] [0,1,13]
(Cd 13
(Sn [
ic 4 1] [4]
.ret)
.skip))
(.seq
(Sn [
mv 14 0,mv 15 1,bt 16 .lss 14 15] [0,1,16]
(Cd 16
(Sn [
ic 4 (-1)] [4]
.ret)
.skip))
(.seq
(Sn [
mv 17 0,mv 18 1,bt 19 .gtr 17 18] [19]
(Cd 19
(Sn [
ic 4 1] [4]
.ret)
.skip))
(Sn [
ic 4 0] [4]
.ret)))))))),
[.tmp 4]⟩
theorem x102_ok:ck x102 102:=by decide+kernel
def x103:XFunc:=⟨3,
(Sn [
bx 3 0,bx 4 1,bx 5 2,ic 6 0] [3,4,5]
(.seq
(Ss [0,1,0,7,0,31,63,127] [
ld 8 3 3,p1 9 33 8,ld 10 3 4,p1 11 33 10,ld 12 2 5,p1 13 29 12,⟨some 14,.mm true (.t 9) [(.t 11),(.t 13)],none⟩,mv 7 14] [3,4,7]
(Sn [
mv 15 7,bc 16 .neq 15 0] [3,4,7,16]
(Cd 16
(Sn [
mv 17 7,mv 6 17] [6]
.ret)
.skip)))
(.seq
(Sn [
fa 18 0 3,ln 19 18,fa 20 0 4,ln 21 20,bt 22 .eql 19 21] [22]
(Cd 22
(Sn [
ic 6 2] [6]
.ret)
.skip))
(Sn [
ic 6 0] [6]
.ret)))),
[.tmp 6]⟩
theorem x103_ok:ck x103 103:=by decide+kernel
def x104:XFunc:=⟨3,
(Sn [
bx 3 0,bx 4 1,bx 5 2,ic 6 0] [3,4,5]
(Sn [
fa 8 1 3,ln 9 8,fa 10 1 4,ln 11 10,bt 12 .sub 9 11,fa 13 1 5,ln 14 13,Bu 15 z7 [(0,1,(.t 12)),(1,1,(.t 14))],fa 16 2 3,
ln 17 16,fa 18 2 4,ln 19 18,bt 20 .sub 17 19,fa 21 0 5,ln 22 21,Bu 23 z7 [(0,1,(.t 20)),(1,1,(.t 22))],
Bu 24 [.int .i64 0,.int .i64 0,.int .i64 0,.int .i64 0] [(0,2,(.t 15)),(2,2,(.t 23))],p1 25 136 24,Al 7 z8,
st 2 7 25] [3,4,7]
(.seq
(Sn [
ld 26 2 7,Bu 27 z8 [],⟨some 28,.eqc 2 true (.t 26) (.t 27),none⟩] [3,4,7,28]
(Cd 28
(.seq
(Sn [
fa 29 0 7,ln 30 29,bc 31 .lss 30 0] [31]
(Cd 31
(Sn [
ic 6 (-1)] [6]
.ret)
.skip))
(Sn [
ic 6 1] [6]
.ret))
.skip))
(Ss [0,1,0,4,15,0,32,0,128,511,1023,2047,4095] [
fa 32 2 3,ln 33 32,fa 34 2 4,ln 35 34,p2 36 132 33 35,fa 37 0 4,ln 38 37,fa 39 0 3,ln 40 39,p2 41 102 38 40,
⟨some 42,.mkrow 1 2 [.int .i64 0] [(0,(.t 36)),(1,(.t 41))],none⟩,p1 43 101 42,mv 6 43] [6]
.ret)))),
[.tmp 6]⟩
theorem x104_ok:ck x104 104:=by decide+kernel
def x105:XFunc:=⟨2,
(Sn [
bx 2 0,bx 3 1,Al 4 z7,ic 5 0] [2,3,4]
(.seq
(Sn [
ld 7 3 2,ld 8 3 3,Bu 9 z7 [(1,1,(.c (.int .i64 1)))],p3 10 103 7 8 9,mv 6 10] [2,3,4,6]
(Sn [
mv 11 6,bc 12 .neq 11 0] [2,3,4,6,12]
(Cd 12
(Sn [
Bu 13 z7 [],mv 14 6,st 2 4 13,mv 5 14] [4,5]
.ret)
.skip)))
(.seq
(Sn [
fa 15 2 2,ln 16 15,fa 17 2 3,ln 18 17,bt 19 .eql 16 18] [2,3,4,19]
(Cd 19
(Sn [
Bu 20 z7 [],st 2 4 20,ic 5 6] [4,5]
.ret)
.skip))
(Sn [
fa 21 1 2,ln 22 21,fa 23 1 3,ln 24 23,bt 25 .sub 22 24,fa 26 2 3,ln 27 26,fa 28 2 2,ln 29 28,bt 30 .sub 27 29,p2 31 137 25 30,ex 32 0 31,ex 33 1 31,
st 2 4 32,mv 5 33] [4,5]
.ret)))),
[.cell 4 (some 2),.tmp 5]⟩
theorem x105_ok:ck x105 105:=by decide+kernel
def x106:XFunc:=⟨3,
(Sn [
ic 6 0,Fl 7] [0,1,2]
(Sn [
mv 12 0,le 13 12,mv 8 13] [0,1,2,8]
(Sn [
mv 14 8,ic 9 0,mv 10 14] [0,1,2,8,9,10]
(.seq
(.block 0
(.loop [(0,none),(1,none),(2,none),(8,none),(9,none),(10,none)]
(.seq
(Sn [
mv 15 9,mv 16 10,bt 17 .lss 15 16] [0,1,2,8,9,10,17]
(Cd 17
.skip
(.exit 0)))
(.block 1
(Sn [
mv 18 9,mv 19 10,bt 20 .add 18 19,⟨some 21,.conv .u64 (.t 20),none⟩,⟨some 22,.bin .shr (.t 21) (.c (.int .u64 1)),none⟩,
⟨some 23,.conv .i64 (.t 22),none⟩,mv 11 23] [0,1,2,8,9,10,11]
(Sn [
mv 24 2,mv 25 0,mv 26 11,ia 27 3 25 26,ld 28 3 27,mv 29 1,⟨some 30,.callv (.t 24) [(.t 28),(.t 29)],none⟩,bc 31 .lss 30 0] [0,1,2,8,9,10,11,31]
(Cd 31
(Rn [
mv 32 11,bc 33 .add 32 1,mv 9 33] [0,1,2,8,9,10])
(Rn [
mv 34 11,mv 10 34] [0,1,2,8,9,10]))))))))
(Sn [
mv 35 9,mv 36 9,mv 37 8,bt 38 .lss 36 37,mv 39 38,Gt 39 (mv 40 2),Gt 39 (mv 41 0),Gt 39 (mv 42 9),Gt 39 (ia 43 3 41 42),Gt 39 (ld 44 3 43),
Gt 39 (mv 45 1),Gt 39 (⟨some 46,.callv (.t 40) [(.t 44),(.t 45)],none⟩),Gt 39 (bc 47 .eql 46 0),pan 48 39 47,mv 6 35,mv 7 48] [6,7]
.ret))))),
[.tmp 6,.tmp 7]⟩
theorem x106_ok:ck x106 106:=by decide+kernel
def x107:XFunc:=⟨2,
(Sn [
bx 2 0,ic 4 0] [1,2]
(Sn [
fa 5 0 2,ln 6 5,mv 7 1,p2 8 102 6 7,mv 4 8] [4]
.ret)),
[.tmp 4]⟩
theorem x107_ok:ck x107 107:=by decide+kernel
def x108:XFunc:=⟨2,
(Sn [
bx 2 0,ic 4 0] [1,2]
(Sn [
fa 5 0 2,ln 6 5,mv 7 1,p2 8 102 6 7,mv 4 8] [4]
.ret)),
[.tmp 4]⟩
theorem x108_ok:ck x108 108:=by decide+kernel
def x109:XFunc:=⟨2,
(Sn [
bx 2 0,Al 4 z6,Al 5 z7,ic 6 0] [1,2,4,5]
(Sn [
ld 10 2 2,mv 11 1,p2 12 138 10 11,mv 9 12,ex 13 0 9,ex 14 1 9,mv 7 13,mv 8 14] [2,4,5,7,8]
(.seq
(Sn [
mv 15 8,bc 16 .neq 15 0] [2,4,5,7,8,16]
(Cd 16
(Sn [
Bu 17 z6 [],Bu 18 z7 [],mv 19 8,st 2 4 17,st 2 5 18,mv 6 19] [4,5,6]
.ret)
.skip))
(Ss [0,1,0,4,12,0,0,64,252,511,0,1024,0,7168,15360,31744,1023,131071,262143] [
fa 20 0 2,ln 21 20,fa 22 1 2,ln 23 22,p1 24 43 23,mv 25 7,mv 26 7,bc 27 .add 26 1,⟨some 28,.call .fp 139 [(.t 24),(.t 25),(.t 27)],none⟩,
Bu 29 z6 [(0,1,(.t 21)),(1,1,(.t 28))],fa 30 1 2,ln 31 30,mv 32 7,ia 33 3 31 32,fa 34 1 33,ld 35 2 34,st 2 4 29,
st 2 5 35,ic 6 0] [4,5,6]
.ret)))),
[.cell 4 (some 2),.cell 5 (some 2),.tmp 6]⟩
theorem x109_ok:ck x109 109:=by decide+kernel
def x110:XFunc:=⟨3,
(Sn [
⟨some 6,.mov (.c (.sl 3 true [])),none⟩] [0,1,2]
(Sn [
mv 8 0,mv 9 1,mv 10 2,mv 11 0,le 12 11,⟨some 13,.slc 3 (.t 8) (some (.t 9)) (some (.t 10)) (some (.t 12)),none⟩] [0,1,2]
(.seq
(Sn [
mv 14 1,mv 15 2,bt 16 .eql 14 15] [0,1,2,16]
(Cd 16
(Sn [
mv 17 0,mv 6 17] [6]
.ret)
.skip))
(Sn [
mv 18 0,le 19 18,mv 7 19] [0,1,2,7]
(Ss [0,0,3,0,0,24,63,127] [
mv 20 0,mv 21 1,⟨some 22,.slc 3 (.t 20) none (some (.t 21)) none,none⟩,mv 23 0,mv 24 2,⟨some 25,.slc 3 (.t 23) (some (.t 24)) none none,none⟩,
ap 26 3 22 25,mv 0 26] [0,7]
(Sn [
mv 27 0,mv 28 0,le 29 28,mv 30 7,⟨some 31,.slc 3 (.t 27) (some (.t 29)) (some (.t 30)) none,none⟩,
⟨none,.clear 3 z4 (.t 31),none⟩] [0]
(Sn [
mv 32 0,mv 6 32] [6]
.ret))))))),
[.tmp 6]⟩
theorem x110_ok:ck x110 110:=by decide+kernel
def x111:XFunc:=⟨3,
(Sn [
ic 6 0,Fl 7] [0,1,2]
(Sn [
mv 12 0,le 13 12,mv 8 13] [0,1,2,8]
(Sn [
mv 14 8,ic 9 0,mv 10 14] [0,1,2,8,9,10]
(.seq
(.block 0
(.loop [(0,none),(1,none),(2,none),(8,none),(9,none),(10,none)]
(.seq
(Sn [
mv 15 9,mv 16 10,bt 17 .lss 15 16] [0,1,2,8,9,10,17]
(Cd 17
.skip
(.exit 0)))
(.block 1
(Sn [
mv 18 9,mv 19 10,bt 20 .add 18 19,⟨some 21,.conv .u64 (.t 20),none⟩,⟨some 22,.bin .shr (.t 21) (.c (.int .u64 1)),none⟩,
⟨some 23,.conv .i64 (.t 22),none⟩,mv 11 23] [0,1,2,8,9,10,11]
(Sn [
mv 24 2,mv 25 0,mv 26 11,ia 27 3 25 26,ld 28 3 27,mv 29 1,⟨some 30,.callv (.t 24) [(.t 28),(.t 29)],none⟩,bc 31 .lss 30 0] [0,1,2,8,9,10,11,31]
(Cd 31
(Rn [
mv 32 11,bc 33 .add 32 1,mv 9 33] [0,1,2,8,9,10])
(Rn [
mv 34 11,mv 10 34] [0,1,2,8,9,10]))))))))
(Sn [
mv 35 9,mv 36 9,mv 37 8,bt 38 .lss 36 37,mv 39 38,Gt 39 (mv 40 2),Gt 39 (mv 41 0),Gt 39 (mv 42 9),Gt 39 (ia 43 3 41 42),Gt 39 (ld 44 3 43),
Gt 39 (mv 45 1),Gt 39 (⟨some 46,.callv (.t 40) [(.t 44),(.t 45)],none⟩),Gt 39 (bc 47 .eql 46 0),pan 48 39 47,mv 6 35,mv 7 48] [6,7]
.ret))))),
[.tmp 6,.tmp 7]⟩
theorem x111_ok:ck x111 111:=by decide+kernel
def x112:XFunc:=⟨2,
(Sn [
bx 2 0,ic 4 0] [1,2]
(Sn [
fa 5 0 2,ln 6 5,mv 7 1,p2 8 102 6 7,mv 4 8] [4]
.ret)),
[.tmp 4]⟩
theorem x112_ok:ck x112 112:=by decide+kernel
def x113:XFunc:=⟨2,
(Sn [
bx 2 0,bx 3 1,ic 4 0,ic 5 0] [2,3]
(.seq
(Sn [
ld 9 5 2,p1 10 31 9,mv 6 10] [2,3,6]
(Sn [
mv 11 6,bc 12 .neq 11 0] [2,3,6,12]
(Cd 12
(Sn [
mv 13 6,ic 4 0,mv 5 13] [4,5]
.ret)
.skip)))
(.seq
(Sn [
fa 15 0 2,ld 16 3 15,ld 17 2 3,p2 18 140 16 17,mv 14 18,ex 19 0 14,ex 20 1 14,mv 7 19,mv 8 20] [2,3,7,8]
(Sn [
mv 21 8,bc 22 .neq 21 0,mv 23 22,Gf 23 (mv 24 7),Gf 23 (No 25 24),por 26 23 25] [2,3,26]
(Cd 26
(Sn [
ic 4 0,ic 5 6] [4,5]
.ret)
.skip)))
(Sn [
fa 27 4 2,ln 28 27,fa 29 0 3,ln 30 29,ia 31 1 28 30,ln 32 31,mv 4 32,ic 5 0] [4,5]
.ret)))),
[.tmp 4,.tmp 5]⟩
theorem x113_ok:ck x113 113:=by decide+kernel
def x114:XFunc:=⟨1,
(Sn [
bx 1 0,Al 2 z1] [1,2]
(Ss [0,1,3,0,8,31,31,127,255,511] [
fa 3 3 1,ln 4 3,p1 5 45 4,fa 6 4 1,ln 7 6,p1 8 46 7,fa 9 3 1,st 1 9 5,fa 10 4 1,st 1 10 8] [1,2]
(Sn [
ld 11 5 1,st 5 2 11] [2]
.ret))),
[.cell 2 (some 5)]⟩
theorem x114_ok:ck x114 114:=by decide+kernel
def x115:XFunc:=⟨3,
(Sn [
bx 3 0,bx 5 2] [1,3,5]
(.seq
(.block 0
(.loop [(1,none),(3,none),(5,none)]
(.seq
(Ss [0,1,3,7,7,23,7,71,199,503,1015,2047,4095,8191] [
mv 7 1,bc 8 .gtr 7 0,mv 9 8,Gt 9 (ld 10 5 5),Gt 9 (fa 11 3 3),Gt 9 (ln 12 11),Gt 9 (mv 13 1),Gt 9 (bc 14 .sub 13 1),Gt 9 (bc 15 .quo 14 2),
Gt 9 (ia 16 5 12 15),Gt 9 (ld 17 5 16),Gt 9 (p2 18 68 10 17),Gt 9 (bc 19 .lss 18 0),pan 20 9 19] [1,3,5,20]
(Cd 20
.skip
(.exit 0)))
(.block 1
(Ss [0,0,0,4,0,16,48,124,252,511] [
ld 21 5 3,mv 22 1,fa 23 3 3,ln 24 23,mv 25 1,bc 26 .sub 25 1,bc 27 .quo 26 2,ia 28 5 24 27,ld 29 5 28,
⟨some 30,.call .fp 141 [(.t 21),(.t 22),(.t 29)],none⟩] [1,3,5]
(Rn [
mv 31 1,bc 32 .sub 31 1,bc 33 .quo 32 2,mv 1 33] [1,3,5]))))))
(.seq
(Sn [
mv 34 1,⟨some 35,.bin .mul (.c (.int .i64 2)) (.t 34),none⟩,bc 36 .add 35 1,mv 6 36] [1,3,5,6]
(.block 2
(.loop [(1,none),(3,none),(5,none),(6,none)]
(.seq
(Sn [
mv 37 6,fa 38 3 3,ln 39 38,le 40 39,bt 41 .lss 37 40] [1,3,5,6,41]
(Cd 41
.skip
(.exit 2)))
(.seq
(.block 3
(.seq
(Ss [0,1,0,4,12,31,63,127,255,127,639,2047,4095,127,8319,127,57471,123007,262143,524287,1048575] [
mv 45 6,bc 46 .add 45 1,fa 47 3 3,ln 48 47,le 49 48,bt 50 .lss 46 49,mv 51 50,Gt 51 (fa 52 3 3),Gt 51 (ln 53 52),Gt 51 (mv 54 6),
Gt 51 (bc 55 .add 54 1),Gt 51 (ia 56 5 53 55),Gt 51 (ld 57 5 56),Gt 51 (fa 58 3 3),Gt 51 (ln 59 58),Gt 51 (mv 60 6),Gt 51 (ia 61 5 59 60),
Gt 51 (ld 62 5 61),Gt 51 (p2 63 68 57 62),Gt 51 (bc 64 .lss 63 0),pan 65 51 64] [1,3,5,6,65]
(Cd 65
(Rn [
mv 66 6,bc 67 .add 66 1,mv 6 67] [1,3,5,6])
.skip))
(.seq
(Ss [0,1,0,7,15,0,63,127] [
fa 68 3 3,ln 69 68,mv 70 6,ia 71 5 69 70,ld 72 5 71,ld 73 5 5,p2 74 68 72 73,bc 75 .geq 74 0] [1,3,5,6,75]
(Cd 75
(.exit 2)
.skip))
(Ss [0,0,0,4,0,28,60,127] [
ld 76 5 3,mv 77 1,fa 78 3 3,ln 79 78,mv 80 6,ia 81 5 79 80,ld 82 5 81,⟨some 83,.call .fp 141 [(.t 76),(.t 77),(.t 82)],none⟩] [3,5,6]
(Rn [
mv 84 6,mv 1 84] [1,3,5])))))
(Rn [
mv 42 1,⟨some 43,.bin .mul (.c (.int .i64 2)) (.t 42),none⟩,bc 44 .add 43 1,mv 6 44] [1,3,5,6]))))))
(Rn [
ld 85 5 3,mv 86 1,ld 87 5 5,⟨some 88,.call .fp 141 [(.t 85),(.t 86),(.t 87)],none⟩] [])))),
[]⟩
theorem x115_ok:ck x115 115:=by decide+kernel
def x116:XFunc:=⟨2,
(Sn [
Fl 4] [0,1]
(Sn [
mv 5 0,mv 6 1,p2 7 142 5 6,bc 8 .geq 7 0,mv 4 8] [4]
.ret)),
[.tmp 4]⟩
theorem x116_ok:ck x116 116:=by decide+kernel
def x117:XFunc:=⟨2,
(Sn [
bx 2 0,Fl 3] [1,2]
(Sn [
fa 4 2 2,ln 5 4,ln 6 1,bt 7 .eql 5 6,mv 3 7] [3]
.ret)),
[.tmp 3]⟩
theorem x117_ok:ck x117 117:=by decide+kernel
def x118:XFunc:=⟨1,
(Sn [
bx 1 0,Al 2 z3,Al 3 z7,ic 4 0] [1,2,3]
(.seq
(Sn [
ld 9 3 1,p1 10 67 9,mv 5 10] [1,2,3,5]
(Sn [
mv 11 5,bc 12 .neq 11 0] [1,2,3,5,12]
(Cd 12
(Sn [
Bu 13 z3 [],Bu 14 z7 [],mv 15 5,st 3 2 13,st 2 3 14,mv 4 15] [2,3,4]
.ret)
.skip)))
(.seq
(Sn [
fa 16 2 1,ln 17 16,le 18 17,bc 19 .eql 18 0] [1,2,3,19]
(Cd 19
(Sn [
Bu 20 z3 [],Bu 21 z7 [],st 3 2 20,st 2 3 21,ic 4 18] [2,3,4]
.ret)
.skip))
(Sn [
fa 23 2 1,ln 24 23,p1 25 143 24,mv 22 25,ex 26 0 22,ex 27 1 22,mv 6 26,mv 7 27] [1,2,3,6,7]
(.seq
(Sn [
fa 28 0 1,ln 29 28,mv 30 7,ia 31 1 29 30,ln 32 31,bc 33 .eql 32 1000000] [1,2,3,6,7,33]
(Cd 33
(Sn [
Bu 34 z3 [],Bu 35 z7 [],st 3 2 34,st 2 3 35,ic 4 18] [2,3,4]
.ret)
.skip))
(Sn [
ld 36 3 1,⟨some 37,.call .shr 144 [(.t 36)],none⟩,Al 8 z3,st 3 8 37] [2,3,6,7,8]
(Sn [
fa 38 1 8,ln 39 38,mv 40 7,mv 41 6,fa 42 2 8,st 1 42 41,ia 43 1 39 40,⟨none,.store 1 (.t 43) (.c (.bool true)),none⟩] [2,3,7,8]
(Sn [
fa 44 0 8,ln 45 44,mv 46 7,ia 47 1 45 46,ln 48 47,bc 49 .add 48 1,ia 50 1 45 46,st 1 50 49] [2,3,7,8]
(Ss [0,0,0,4,0,28,60,126,1,511,1023] [
ld 51 3 8,mv 52 7,fa 53 0 8,ln 54 53,mv 55 7,ia 56 1 54 55,ln 57 56,Bu 58 z7 [(0,1,(.t 52)),(1,1,(.t 57))],st 3 2 51,
st 2 3 58,ic 4 0] [2,3,4]
.ret))))))))),
[.cell 2 (some 3),.cell 3 (some 2),.tmp 4]⟩
theorem x118_ok:ck x118 118:=by decide+kernel
def x119:XFunc:=⟨2,
(Sn [
bx 2 0,Al 4 z1,
Al 5 z2,ic 6 0] [1,2,4,5]
(Sn [
fa 13 3 2,ln 14 13,mv 15 1,ia 16 5 14 15,ld 17 5 16,Al 7 z2,st 5 7 17] [1,2,4,5,7]
(Sn [
fa 19 0 2,ld 20 3 19,fa 21 3 7,ld 22 2 21,p2 23 145 20 22,mv 18 23,ex 24 0 18,ex 25 1 18,Al 8 z3,st 3 8 24,
mv 9 25] [1,2,4,5,7,8,9]
(.seq
(Sn [
mv 26 9,bc 27 .neq 26 0] [1,2,4,5,7,8,9,27]
(Cd 27
(Sn [
Bu 28 z1 [],
Bu 29 z2 [],mv 30 9,st 5 4 28,st 5 5 29,mv 6 30] [4,5,6]
.ret)
.skip))
(Sn [
ld 31 5 2,⟨some 32,.call .shr 114 [(.t 31)],none⟩,Al 10 z1,
st 5 10 32] [1,4,5,7,8,10]
(Sn [
fa 33 3 10,ln 34 33,le 35 34,bc 36 .sub 35 1,mv 11 36] [1,4,5,7,8,10,11]
(Sn [
fa 37 3 10,ln 38 37,mv 39 11,ia 40 5 38 39,ld 41 5 40,Al 12 z2,
st 5 12 41] [1,4,5,7,8,10,11,12]
(Ss [0,1,0,4,12,0,0,64,0,448,227,1251,4067,8163,16383,32767] [
fa 42 4 10,ln 43 42,fa 44 3 7,fa 45 0 44,ln 46 45,ld 47 3 8,fa 48 3 10,ln 49 48,mv 50 11,⟨some 51,.slc 5 (.t 49) none (some (.t 50)) none,none⟩,
fa 52 0 10,st 3 52 47,fa 53 3 10,st 1 53 51,ia 54 1 43 46,⟨none,.store 1 (.t 54) (.c (.int .i64 (-1))),none⟩] [1,4,5,7,10,11,12]
(.seq
(Sn [
mv 55 1,mv 56 11,bt 57 .lss 55 56] [1,4,5,7,10,12,57]
(Cd 57
(Rn [
ld 58 5 10,mv 59 1,ld 60 5 12,⟨some 61,.call .fp 115 [(.t 58),(.t 59),(.t 60)],none⟩] [4,5,7,10])
.skip))
(Ss [0,0,1,7,15] [
ld 62 5 10,ld 63 5 7,st 5 4 62,st 5 5 63,ic 6 0] [4,5,6]
.ret)))))))))),
[.cell 4 (some 5),.cell 5 (some 5),.tmp 6]⟩
theorem x119_ok:ck x119 119:=by decide+kernel
def x120:XFunc:=⟨2,
(Sn [
bx 2 0,Fl 3] [1,2]
(Sn [
fa 4 1 2,ld 5 2 4,ld 6 2 1,⟨some 7,.eqc 2 false (.t 5) (.t 6),none⟩,mv 3 7] [3]
.ret)),
[.tmp 3]⟩
theorem x120_ok:ck x120 120:=by decide+kernel
def x121:XFunc:=⟨2,
(Sn [
bx 2 0,bx 3 1,ic 4 0] [2,3]
(Ss [0,1,0,4,15,0,32,0,128,511,0,0,4095,8191] [
fa 7 0 2,ln 8 7,fa 9 1 3,ln 10 9,p2 11 146 8 10,fa 12 0 3,ln 13 12,fa 14 1 2,ln 15 14,p2 16 146 13 15,Al 5 z5,
Al 6 z5,st 3 5 11,st 3 6 16] [5,6]
(.seq
(Ss [0,1,0,7,15] [
ld 17 3 5,p1 18 147 17,ld 19 3 6,p1 20 147 19,bt 21 .neq 18 20] [5,6,21]
(Cd 21
(.seq
(Ss [0,1,0,7,15] [
ld 22 3 5,p1 23 147 22,ld 24 3 6,p1 25 147 24,bt 26 .lss 23 25] [26]
(Cd 26
(Sn [
ic 4 (-1)] [4]
.ret)
.skip))
(Sn [
ic 4 1] [4]
.ret))
.skip))
(.seq
(Sn [
ld 27 3 5,p1 28 147 27,bc 29 .lss 28 0] [5,6,29]
(Cd 29
(Sn [
ld 30 3 6,ld 31 3 5,p2 32 148 30 31,mv 4 32] [4]
.ret)
.skip))
(Sn [
ld 33 3 5,ld 34 3 6,p2 35 148 33 34,mv 4 35] [4]
.ret))))),
[.tmp 4]⟩
theorem x121_ok:ck x121 121:=by decide+kernel
def x122:XFunc:=⟨3,
(Sn [
bx 3 0,bx 4 1,bx 5 2,Fl 6] [3,4,5]
(Sn [
ld 8 3 3,ld 9 3 4,ld 10 2 5,p3 11 149 8 9 10,mv 7 11] [3,4,7]
(.seq
(Sn [
mv 12 7,bc 13 .neq 12 0] [3,4,7,13]
(Cd 13
(Sn [
mv 14 7,bc 15 .gtr 14 0,mv 6 15] [6]
.ret)
.skip))
(.seq
(Sn [
fa 16 2 3,ln 17 16,fa 18 2 4,ln 19 18,bt 20 .neq 17 19] [3,4,20]
(Cd 20
(Sn [
fa 21 2 3,ln 22 21,fa 23 2 4,ln 24 23,bt 25 .gtr 22 24,mv 6 25] [6]
.ret)
.skip))
(Sn [
fa 26 0 3,ln 27 26,fa 28 0 4,ln 29 28,bt 30 .lss 27 29,mv 6 30] [6]
.ret))))),
[.tmp 6]⟩
theorem x122_ok:ck x122 122:=by decide+kernel
def x123:XFunc:=⟨2,
(Sn [
bx 2 0,bx 3 1,Al 4 z7] [2,3,4]
(Sn [
fa 8 1 2,ln 9 8,fa 10 1 3,ln 11 10,bt 12 .sub 9 11,fa 13 2 3,ln 14 13,fa 15 2 2,ln 16 15,bt 17 .sub 14 16,p2 18 150 12 17,mv 7 18,ex 19 0 7,
ex 20 1 7,Al 5 z7,st 2 5 19,mv 6 20] [4,5]
(Sn [
ld 21 2 5,st 2 4 21] [4]
.ret))),
[.cell 4 (some 2)]⟩
theorem x123_ok:ck x123 123:=by decide+kernel
def x124:XFunc:=⟨3,
(Sn [
bx 3 0] [1,2,3]
(Ss [0,1,0,0,8,0,0,64,0,448,960,0,2048,0,14336,30720,65479,131015,262143,524287] [
fa 6 3 3,ln 7 6,mv 8 1,fa 9 3 3,ln 10 9,mv 11 2,fa 12 3 3,ln 13 12,mv 14 2,ia 15 5 13 14,ld 16 5 15,fa 17 3 3,ln 18 17,mv 19 1,ia 20 5 18 19,
ld 21 5 20,ia 22 5 7 8,st 5 22 16,ia 23 5 10 11,st 5 23 21] [1,2,3]
(Rs [0,1,0,4,0,28,60,124,252,0,512,0,2048,0,14336,30720,63488,129024,0,0,522751,1571327,4194303,8388607] [
fa 24 4 3,ln 25 24,fa 26 3 3,ln 27 26,mv 28 1,ia 29 5 27 28,fa 30 3 29,fa 31 0 30,ln 32 31,fa 33 4 3,ln 34 33,fa 35 3 3,ln 36 35,mv 37 2,
ia 38 5 36 37,fa 39 3 38,fa 40 0 39,ln 41 40,mv 42 1,mv 43 2,ia 44 1 25 32,st 1 44 42,ia 45 1 34 41,st 1 45 43] []))),
[]⟩
theorem x124_ok:ck x124 124:=by decide+kernel
def x125:XFunc:=⟨2,
(Sn [
bx 2 0,bx 3 1,Al 4 z3] [2,3,4]
(Sn [
ld 6 3 2,⟨some 7,.call .own 28 [(.t 6)],none⟩,Al 5 z3,st 3 5 7] [3,4,5]
(Sn [
fa 8 1 5,ln 9 8,fa 10 0 3,ln 11 10,ia 12 1 9 11,⟨none,.store 1 (.t 12) (.c (.bool false)),none⟩] [3,4,5]
(Sn [
fa 13 2 5,ln 14 13,fa 15 0 3,ln 16 15,⟨some 17,.mkrow 1 1 [.int .i64 0] [(0,(.t 16))],none⟩,ap 18 1 14 17,fa 19 2 5,st 1 19 18] [4,5]
(Sn [
ld 20 3 5,st 3 4 20] [4]
.ret))))),
[.cell 4 (some 3)]⟩
theorem x125_ok:ck x125 125:=by decide+kernel
def x126:XFunc:=⟨2,
(Sn [
bx 2 0] [1,2]
(.block 0
(.loop [(1,none),(2,none)]
(.block 1
(Sn [
mv 5 1,⟨some 6,.bin .mul (.c (.int .i64 2)) (.t 5),none⟩,bc 7 .add 6 1,mv 4 7] [1,2,4]
(.seq
(Sn [
mv 8 4,fa 9 3 2,ln 10 9,le 11 10,bt 12 .geq 8 11] [1,2,4,12]
(Cd 12
.ret
.skip))
(.seq
(Ss [0,1,0,4,12,31,63,127,255,127,639,2047,4095,127,8319,127,57471,123007,262143,524287] [
mv 13 4,bc 14 .add 13 1,fa 15 3 2,ln 16 15,le 17 16,bt 18 .lss 14 17,mv 19 18,Gt 19 (fa 20 3 2),Gt 19 (ln 21 20),Gt 19 (mv 22 4),
Gt 19 (bc 23 .add 22 1),Gt 19 (ia 24 5 21 23),Gt 19 (ld 25 5 24),Gt 19 (fa 26 3 2),Gt 19 (ln 27 26),Gt 19 (mv 28 4),Gt 19 (ia 29 5 27 28),
Gt 19 (ld 30 5 29),Gt 19 (p2 31 86 25 30),pan 32 19 31] [1,2,4,32]
(Cd 32
(Rn [
mv 33 4,bc 34 .add 33 1,mv 4 34] [1,2,4])
.skip))
(.seq
(Ss [0,1,0,7,15,0,32,0,224,480,1023,2047] [
fa 35 3 2,ln 36 35,mv 37 4,ia 38 5 36 37,ld 39 5 38,fa 40 3 2,ln 41 40,mv 42 1,ia 43 5 41 42,ld 44 5 43,p2 45 86 39 44,No 46 45] [1,2,4,46]
(Cd 46
.ret
.skip))
(Sn [
ld 47 5 2,mv 48 1,mv 49 4,⟨some 50,.call .fp 124 [(.t 47),(.t 48),(.t 49)],none⟩] [2,4]
(Rn [
mv 51 4,mv 1 51] [1,2])))))))))),
[]⟩
theorem x126_ok:ck x126 126:=by decide+kernel
def x127:XFunc:=⟨2,
(Sn [
bx 2 0,ic 4 0] [1,2]
(.seq
(.block 0
(.loop [(1,none),(2,none)]
(.seq
(Ss [0,1,3,7,15,7,63,127,7,263,7,1031,3079,7943,16135,32767,65535] [
mv 5 1,bc 6 .gtr 5 0,mv 7 6,Gt 7 (fa 8 3 2),Gt 7 (ln 9 8),Gt 7 (mv 10 1),Gt 7 (ia 11 5 9 10),Gt 7 (ld 12 5 11),Gt 7 (fa 13 3 2),Gt 7 (ln 14 13),
Gt 7 (mv 15 1),Gt 7 (bc 16 .sub 15 1),Gt 7 (bc 17 .quo 16 2),Gt 7 (ia 18 5 14 17),Gt 7 (ld 19 5 18),Gt 7 (p2 20 86 12 19),pan 21 7 20] [1,2,21]
(Cd 21
.skip
(.exit 0)))
(.block 1
(Sn [
ld 22 5 2,mv 23 1,mv 24 1,bc 25 .sub 24 1,bc 26 .quo 25 2,⟨some 27,.call .fp 124 [(.t 22),(.t 23),(.t 26)],none⟩] [1,2]
(Rn [
mv 28 1,bc 29 .sub 28 1,bc 30 .quo 29 2,mv 1 30] [1,2]))))))
(Sn [
mv 31 1,mv 4 31] [4]
.ret))),
[.tmp 4]⟩
theorem x127_ok:ck x127 127:=by decide+kernel
def x128:XFunc:=⟨1,
(Sn [
bx 1 0,Al 2 z3,Al 3 z7] [1,2,3]
(Sn [
ld 6 3 1,⟨some 7,.call .own 28 [(.t 6)],none⟩,Al 4 z3,st 3 4 7] [2,3,4]
(Sn [
fa 8 2 4,ln 9 8,fa 10 2 4,ln 11 10,le 12 11,bc 13 .sub 12 1,ia 14 1 9 13,ln 15 14,mv 5 15] [2,3,4,5]
(Sn [
fa 16 2 4,ln 17 16,fa 18 2 4,ln 19 18,le 20 19,bc 21 .sub 20 1,⟨some 22,.slc 1 (.t 17) none (some (.t 21)) none,none⟩,fa 23 2 4,
st 1 23 22] [2,3,4,5]
(Sn [
fa 24 0 4,ln 25 24,mv 26 5,ia 27 1 25 26,ln 28 27,bc 29 .add 28 1,ia 30 1 25 26,st 1 30 29] [2,3,4,5]
(Sn [
fa 31 1 4,ln 32 31,mv 33 5,ia 34 1 32 33,⟨none,.store 1 (.t 34) (.c (.bool true)),none⟩] [2,3,4,5]
(Ss [0,0,0,4,0,28,60,126,1,511] [
ld 35 3 4,mv 36 5,fa 37 0 4,ln 38 37,mv 39 5,ia 40 1 38 39,ln 41 40,Bu 42 z7 [(0,1,(.t 36)),(1,1,(.t 41))],st 3 2 35,
st 2 3 42] [2,3]
.ret))))))),
[.cell 2 (some 3),.cell 3 (some 2)]⟩
theorem x128_ok:ck x128 128:=by decide+kernel
def x129:XFunc:=⟨2,
(Sn [
ic 4 0] [0,1]
(.seq
(Sn [
mv 6 0,le 7 6,ic 8 0] [0,1,7,8]
(.block 0
(.loop [(0,none),(1,none),(7,none),(8,none)]
(Sn [
bt 9 .lss 8 7] [0,1,7,8,9]
(.seq
(Cd 9
.skip
(.exit 0))
(.seq
(.block 1
(Sn [
mv 10 8,mv 5 10] [0,1,5,7,8]
(Sn [
mv 11 1,mv 12 0,mv 13 5,ia 14 1 12 13,ln 15 14,⟨some 16,.callv (.t 11) [(.t 15)],none⟩] [0,1,5,7,8,16]
(Cd 16
(Sn [
mv 17 5,mv 4 17] [4]
.ret)
.skip))))
(Rn [
bc 18 .add 8 1,mv 8 18] [0,1,7,8])))))))
(Sn [
ic 4 (-1)] [4]
.ret))),
[.tmp 4]⟩
theorem x129_ok:ck x129 129:=by decide+kernel
def x130:XFunc:=⟨2,
(Sn [
ic 4 0] [0,1]
(.seq
(Sn [
mv 6 0,le 7 6,ic 8 0] [0,1,7,8]
(.block 0
(.loop [(0,none),(1,none),(7,none),(8,none)]
(Sn [
bt 9 .lss 8 7] [0,1,7,8,9]
(.seq
(Cd 9
.skip
(.exit 0))
(.seq
(.block 1
(Sn [
mv 10 8,mv 5 10] [0,1,5,7,8]
(Sn [
mv 11 1,mv 12 0,mv 13 5,ia 14 1 12 13,ln 15 14,⟨some 16,.binb false (.t 11) (.t 15),none⟩] [0,1,5,7,8,16]
(Cd 16
(Sn [
mv 17 5,mv 4 17] [4]
.ret)
.skip))))
(Rn [
bc 18 .add 8 1,mv 8 18] [0,1,7,8])))))))
(Sn [
ic 4 (-1)] [4]
.ret))),
[.tmp 4]⟩
theorem x130_ok:ck x130 130:=by decide+kernel
def x131:XFunc:=⟨2,
(Sn [
bx 2 0,bx 3 1,ic 4 0] [2,3]
(Ss [0,1,0,7,15,31] [
ld 5 2 2,p1 6 29 5,ld 7 2 3,p1 8 29 7,⟨some 9,.mm true (.t 6) [(.t 8)],none⟩,mv 4 9] [4]
.ret)),
[.tmp 4]⟩
theorem x131_ok:ck x131 131:=by decide+kernel
def x132:XFunc:=⟨2,
(Sn [
ic 4 0] [0,1]
(Sn [
mv 7 0,p1 8 151 7,mv 5 8] [0,1,5]
(Sn [
mv 9 1,p1 10 151 9,mv 6 10] [0,1,5,6]
(.seq
(Sn [
mv 11 5] [0,1,6,11]
(Cd 11
(.seq
(Sn [
mv 12 6] [12]
(Cd 12
(Sn [
ic 4 0] [4]
.ret)
.skip))
(Sn [
ic 4 (-1)] [4]
.ret))
.skip))
(.seq
(Sn [
mv 13 6] [0,1,13]
(Cd 13
(Sn [
ic 4 1] [4]
.ret)
.skip))
(.seq
(Sn [
mv 14 0,mv 15 1,bt 16 .lss 14 15] [0,1,16]
(Cd 16
(Sn [
ic 4 (-1)] [4]
.ret)
.skip))
(.seq
(Sn [
mv 17 0,mv 18 1,bt 19 .gtr 17 18] [19]
(Cd 19
(Sn [
ic 4 1] [4]
.ret)
.skip))
(Sn [
ic 4 0] [4]
.ret)))))))),
[.tmp 4]⟩
theorem x132_ok:ck x132 132:=by decide+kernel
def x133:XFunc:=⟨2,
(Sn [
bx 2 0,bx 3 1,ic 4 0] [2,3]
(.seq
(Sn [
fa 6 1 2,ln 7 6,fa 8 1 3,ln 9 8,p2 10 152 7 9,mv 5 10] [2,3,5]
(Sn [
mv 11 5,bc 12 .neq 11 0] [2,3,5,12]
(Cd 12
(Sn [
mv 13 5,mv 4 13] [4]
.ret)
.skip)))
(Sn [
fa 14 2 2,ln 15 14,fa 16 2 3,ln 17 16,p2 18 152 15 17,mv 4 18] [4]
.ret))),
[.tmp 4]⟩
theorem x133_ok:ck x133 133:=by decide+kernel
def x134:XFunc:=⟨2,
(Sn [
Al 4 z5] [0,1,4]
(Sn [
mv 8 0,p1 9 65 8,mv 10 1,p1 11 65 10,p2 12 153 9 11,mv 7 12,ex 13 0 7,ex 14 1 7,mv 5 13,mv 6 14] [0,1,4,5,6]
(Sn [
mv 15 0,bc 16 .lss 15 0,mv 17 1,bc 18 .lss 17 0,⟨some 19,.binb true (.t 16) (.t 18),none⟩,mv 20 5,mv 21 6,
Bu 22 z5 [(0,1,(.t 19)),(1,1,(.t 20)),(2,1,(.t 21))],st 3 4 22] [4]
.ret))),
[.cell 4 (some 3)]⟩
theorem x134_ok:ck x134 134:=by decide+kernel
def x135:XFunc:=⟨1,
(Sn [
Fl 2] [0]
(Sn [
mv 3 0,mv 4 0,bt 5 .neq 3 4,mv 2 5] [2]
.ret)),
[.tmp 2]⟩
theorem x135_ok:ck x135 135:=by decide+kernel
def x136:XFunc:=⟨1,
(Sn [
bx 1 0,Al 2 z8] [1,2]
(Sn [
Al 3 z8] [1,2,3]
(.seq
(Sn [
ld 11 4 1,ic 12 0] [2,3,11,12]
(.block 0
(.loop [(2,none),(3,none),(11,none),(12,none)]
(Sn [
bc 13 .lss 12 2] [2,3,11,12,13]
(.seq
(Cd 13
.skip
(.exit 0))
(.seq
(.block 1
(Sn [
⟨some 14,.idx 2 2 (some 2) (.t 11) (.t 12),none⟩,Al 5 z7,st 2 5 14] [2,3,5,11,12]
(Sn [
⟨some 16,.iadra 2 1 (.t 5) (.c (.int .i64 0)),none⟩,ln 17 16,⟨some 18,.conv .u64 (.t 17),none⟩,⟨some 19,.iadra 2 1 (.t 5) (.c (.int .i64 1)),none⟩,
ln 20 19,⟨some 21,.conv .u64 (.t 20),none⟩,p2 22 153 18 21,mv 15 22,ex 23 0 15,ex 24 1 15,mv 6 23,mv 7 24] [2,3,5,6,7,11,12]
(Sn [
mv 25 6,⟨some 26,.conv .i64 (.t 25),none⟩,mv 8 26] [2,3,5,7,8,11,12]
(.seq
(Sn [
⟨some 27,.iadra 2 1 (.t 5) (.c (.int .i64 0)),none⟩,ln 28 27,bc 29 .lss 28 0] [2,3,5,7,8,11,12,29]
(Cd 29
(Rn [
mv 30 8,⟨some 31,.iadra 2 1 (.t 5) (.c (.int .i64 1)),none⟩,ln 32 31,bt 33 .sub 30 32,mv 8 33] [2,3,5,7,8,11,12])
.skip))
(.seq
(Sn [
⟨some 34,.iadra 2 1 (.t 5) (.c (.int .i64 1)),none⟩,ln 35 34,bc 36 .lss 35 0] [2,3,5,7,8,11,12,36]
(Cd 36
(Rn [
mv 37 8,⟨some 38,.iadra 2 1 (.t 5) (.c (.int .i64 0)),none⟩,ln 39 38,bt 40 .sub 37 39,mv 8 40] [2,3,7,8,11,12])
.skip))
(Sn [
fa 42 1 3,ln 43 42,mv 44 7,⟨some 45,.call .pur 154 [(.t 43),(.t 44),(.c (.int .u64 0))],none⟩,mv 41 45,ex 46 0 41,ex 47 1 41,mv 9 46,
mv 10 47] [2,3,8,9,10,11,12]
(Rn [
fa 48 0 3,ln 49 48,mv 50 8,bt 51 .add 49 50,mv 52 10,⟨some 53,.conv .i64 (.t 52),none⟩,bt 54 .add 51 53,mv 55 9,
Bu 56 z8 [(0,1,(.t 54)),(1,1,(.t 55))],st 2 3 56] [2,3,11,12]))))))))
(Rn [
bc 57 .add 12 1,mv 12 57] [2,3,11,12])))))))
(Sn [
ld 58 2 3,st 2 2 58] [2]
.ret)))),
[.cell 2 (some 2)]⟩
theorem x136_ok:ck x136 136:=by decide+kernel
def x137:XFunc:=⟨2,
(Sn [
Al 4 z7,ic 5 0] [0,1,4]
(.seq
(Sn [
mv 7 1,bc 8 .eql 7 0] [0,1,4,8]
(Cd 8
(Sn [
Bu 9 z7 [],st 2 4 9,ic 5 26] [4,5]
.ret)
.skip))
(Sn [
mv 10 0,p1 11 65 10,mv 12 1,p1 13 65 12,p2 14 64 11 13,mv 6 14] [0,1,4,6]
(Ss [0,1,0,4,15,0,32,0,224,511,0,1120,0,7264,16383,32767,32767,131071,262143] [
mv 15 0,bc 16 .lss 15 0,mv 17 1,bc 18 .lss 17 0,⟨some 19,.binb true (.t 16) (.t 18),none⟩,mv 20 0,p1 21 65 20,mv 22 6,bt 23 .quo 21 22,
Bu 24 z5 [(0,1,(.t 19)),(1,1,(.c (.int .u64 0))),(2,1,(.t 23))],mv 25 1,p1 26 65 25,mv 27 6,bt 28 .quo 26 27,
⟨some 29,.call .pur 155 [(.t 24),(.c (.int .u64 0)),(.t 28)],none⟩,ex 30 0 29,ex 31 1 29,st 2 4 30,mv 5 31] [4,5]
.ret)))),
[.cell 4 (some 2),.tmp 5]⟩
theorem x137_ok:ck x137 137:=by decide+kernel
def x138:XFunc:=⟨2,
(Sn [
bx 2 0,ic 4 0,ic 5 0] [1,2]
(.seq
(Sn [
ld 9 2 2,p1 10 30 9,mv 6 10] [1,2,6]
(Sn [
mv 11 6,bc 12 .neq 11 0] [1,2,6,12]
(Cd 12
(Sn [
mv 13 6,ic 4 0,mv 5 13] [4,5]
.ret)
.skip)))
(Sn [
fa 15 1 2,ln 16 15,mv 17 1,⟨some 18,.call .pur 156 [(.t 16),(.t 17),(.c (.clo 157 [] []))],none⟩,mv 14 18,ex 19 0 14,ex 20 1 14,mv 7 19,
mv 8 20] [7,8]
(.seq
(Sn [
mv 21 8,No 22 21] [7,22]
(Cd 22
(Sn [
ic 4 0,ic 5 6] [4,5]
.ret)
.skip))
(Sn [
mv 23 7,mv 4 23,ic 5 0] [4,5]
.ret))))),
[.tmp 4,.tmp 5]⟩
theorem x138_ok:ck x138 138:=by decide+kernel
def x139:XFunc:=⟨3,
(Sn [
⟨some 6,.mov (.c (.sl 3 true [])),none⟩] [0,1,2]
(Sn [
mv 8 0,mv 9 1,mv 10 2,mv 11 0,le 12 11,⟨some 13,.slc 3 (.t 8) (some (.t 9)) (some (.t 10)) (some (.t 12)),none⟩] [0,1,2]
(.seq
(Sn [
mv 14 1,mv 15 2,bt 16 .eql 14 15] [0,1,2,16]
(Cd 16
(Sn [
mv 17 0,mv 6 17] [6]
.ret)
.skip))
(Sn [
mv 18 0,le 19 18,mv 7 19] [0,1,2,7]
(Ss [0,0,3,0,0,24,63,127] [
mv 20 0,mv 21 1,⟨some 22,.slc 3 (.t 20) none (some (.t 21)) none,none⟩,mv 23 0,mv 24 2,⟨some 25,.slc 3 (.t 23) (some (.t 24)) none none,none⟩,
ap 26 3 22 25,mv 0 26] [0,7]
(Sn [
mv 27 0,mv 28 0,le 29 28,mv 30 7,⟨some 31,.slc 3 (.t 27) (some (.t 29)) (some (.t 30)) none,none⟩,
⟨none,.clear 3 z4 (.t 31),none⟩] [0]
(Sn [
mv 32 0,mv 6 32] [6]
.ret))))))),
[.tmp 6]⟩
theorem x139_ok:ck x139 139:=by decide+kernel
def x140:XFunc:=⟨2,
(Sn [
bx 2 0,bx 3 1,Fl 4,ic 5 0] [2,3]
(.seq
(Sn [
ld 7 3 2,p1 8 67 7,mv 6 8] [2,3,6]
(Sn [
mv 9 6,bc 10 .neq 9 0] [2,3,6,10]
(Cd 10
(Sn [
mv 11 6,Fl 4,mv 5 11] [4,5]
.ret)
.skip)))
(Ss [0,1,3,7,15,31,15,79,207,511,1023,2047,4095,8191,4095,20479,65535,131071,262143,524287,1048575,2097151,1048575,5242879,16777215,33554431,1048575,68157439,268435455,536870911,1073741823,2147483647] [
fa 12 0 3,ln 13 12,bc 14 .geq 13 0,mv 15 14,Gt 15 (fa 16 0 3),Gt 15 (ln 17 16),Gt 15 (fa 18 1 2),Gt 15 (ln 19 18),Gt 15 (le 20 19),
Gt 15 (bt 21 .lss 17 20),pan 22 15 21,mv 23 22,Gt 23 (fa 24 1 2),Gt 23 (ln 25 24),Gt 23 (fa 26 0 3),Gt 23 (ln 27 26),Gt 23 (ia 28 1 25 27),
Gt 23 (ln 29 28),pan 30 23 29,mv 31 30,Gt 31 (fa 32 0 2),Gt 31 (ln 33 32),Gt 31 (fa 34 0 3),Gt 31 (ln 35 34),Gt 31 (ia 36 1 33 35),Gt 31 (ln 37 36),
Gt 31 (fa 38 1 3),Gt 31 (ln 39 38),Gt 31 (bt 40 .eql 37 39),pan 41 31 40,mv 4 41,ic 5 0] [4,5]
.ret))),
[.tmp 4,.tmp 5]⟩
theorem x140_ok:ck x140 140:=by decide+kernel
def x141:XFunc:=⟨3,
(Sn [
bx 3 0,bx 5 2] [1,3,5]
(Rs [0,1,0,0,8,0,32,96,0,0,263,1287,4095,8191] [
fa 6 3 3,ln 7 6,mv 8 1,fa 9 4 3,ln 10 9,fa 11 3 5,fa 12 0 11,ln 13 12,ld 14 5 5,mv 15 1,ia 16 5 7 8,st 5 16 14,ia 17 1 10 13,st 1 17 15] [])),
[]⟩
theorem x141_ok:ck x141 141:=by decide+kernel
def x142:XFunc:=⟨2,
(Sn [
ic 4 0] [0,1]
(.seq
(Sn [
mv 6 0,le 7 6,ic 8 0] [0,1,7,8]
(.block 0
(.loop [(0,none),(1,none),(7,none),(8,none)]
(Sn [
bt 9 .lss 8 7] [0,1,7,8,9]
(.seq
(Cd 9
.skip
(.exit 0))
(.seq
(.block 1
(Sn [
mv 10 8,mv 5 10] [0,1,5,7,8]
(Sn [
mv 11 1,mv 12 0,mv 13 5,ia 14 5 12 13,ld 15 5 14,⟨some 16,.callv (.t 11) [(.t 15)],none⟩] [0,1,5,7,8,16]
(Cd 16
(Sn [
mv 17 5,mv 4 17] [4]
.ret)
.skip))))
(Rn [
bc 18 .add 8 1,mv 8 18] [0,1,7,8])))))))
(Sn [
ic 4 (-1)] [4]
.ret))),
[.tmp 4]⟩
theorem x142_ok:ck x142 142:=by decide+kernel
def x143:XFunc:=⟨1,
(Sn [
⟨some 2,.mov (.c (.sl 1 true [])),none⟩,ic 3 0] [0]
(Sn [
mv 5 0,le 6 5,bc 7 .sub 6 1,mv 4 7] [0,4]
(Ss [0,0,3,7,0,0,48,112,15,511] [
mv 8 0,mv 9 4,⟨some 10,.slc 1 (.t 8) none (some (.t 9)) none,none⟩,p1 11 158 10,mv 12 0,mv 13 4,ia 14 1 12 13,ln 15 14,mv 2 11,mv 3 15] [2,3]
.ret))),
[.tmp 2,.tmp 3]⟩
theorem x143_ok:ck x143 143:=by decide+kernel
def x144:XFunc:=⟨1,
(Sn [
bx 1 0,Al 2 z3] [1,2]
(Ss [0,1,3,0,8,31,0,64,255,511] [
fa 3 0 1,ln 4 3,p1 5 46 4,fa 6 1 1,ln 7 6,p1 8 47 7,fa 9 2 1,ln 10 9,
Bu 11 z3 [(0,1,(.t 5)),(1,1,(.t 8)),(2,1,(.t 10))],st 3 2 11] [2]
.ret)),
[.cell 2 (some 3)]⟩
theorem x144_ok:ck x144 144:=by decide+kernel
def x145:XFunc:=⟨2,
(Sn [
bx 2 0,bx 3 1,Al 4 z3,ic 5 0] [2,3,4]
(Sn [
ld 10 3 2,ld 11 2 3,p2 12 140 10 11,mv 9 12,ex 13 0 9,ex 14 1 9,mv 6 13,mv 7 14] [2,3,4,6,7]
(.seq
(Sn [
mv 15 7,bc 16 .neq 15 0] [2,3,4,6,7,16]
(Cd 16
(Sn [
Bu 17 z3 [],mv 18 7,st 3 4 17,mv 5 18] [4,5]
.ret)
.skip))
(.seq
(Sn [
mv 19 6,No 20 19] [2,3,4,20]
(Cd 20
(Sn [
Bu 21 z3 [],st 3 4 21,ic 5 6] [4,5]
.ret)
.skip))
(Sn [
ld 22 3 2,⟨some 23,.call .shr 144 [(.t 22)],none⟩,Al 8 z3,st 3 8 23] [2,3,4,8]
(Ss [0,1,0,4,0,16,0,64,240,499,1011,2047,4095] [
fa 24 1 8,ln 25 24,fa 26 0 3,ln 27 26,fa 28 2 2,ln 29 28,fa 30 0 3,ln 31 30,p2 32 159 29 31,fa 33 2 8,st 1 33 32,ia 34 1 25 27,
⟨none,.store 1 (.t 34) (.c (.bool false)),none⟩] [4,8]
(Sn [
ld 35 3 8,st 3 4 35,ic 5 0] [4,5]
.ret))))))),
[.cell 4 (some 3),.tmp 5]⟩
theorem x145_ok:ck x145 145:=by decide+kernel
def x146:XFunc:=⟨2,
(Sn [
Al 4 z5] [0,1,4]
(Sn [
mv 6 0,p1 7 83 6,mv 8 1,p1 9 83 8,p2 10 160 7 9,Al 5 z5,st 3 5 10] [0,1,4,5]
(Sn [
mv 11 0,bc 12 .lss 11 0,mv 13 1,bc 14 .lss 13 0,⟨some 15,.binb true (.t 12) (.t 14),none⟩,mv 16 15,Gt 16 (mv 17 0),Gt 16 (bc 18 .neq 17 0),
Gt 16 (mv 19 18),Gt 19 (mv 20 1),Gt 19 (bc 21 .neq 20 0),Gt 16 (pan 22 19 21),pan 23 16 22,fa 24 0 5,st 1 24 23] [4,5]
(Sn [
ld 25 3 5,st 3 4 25] [4]
.ret)))),
[.cell 4 (some 3)]⟩
theorem x146_ok:ck x146 146:=by decide+kernel
def x147:XFunc:=⟨1,
(Sn [
bx 1 0,ic 2 0] [1]
(.seq
(Sn [
fa 3 1 1,ln 4 3,⟨some 5,.bin .eql (.t 4) (.c (.int .u64 0)),none⟩,mv 6 5,Gt 6 (fa 7 2 1),Gt 6 (ln 8 7),
Gt 6 (⟨some 9,.bin .eql (.t 8) (.c (.int .u64 0)),none⟩),pan 10 6 9] [1,10]
(Cd 10
(Sn [
ic 2 0] [2]
.ret)
.skip))
(.seq
(Sn [
fa 11 0 1,ln 12 11] [12]
(Cd 12
(Sn [
ic 2 (-1)] [2]
.ret)
.skip))
(Sn [
ic 2 1] [2]
.ret)))),
[.tmp 2]⟩
theorem x147_ok:ck x147 147:=by decide+kernel
def x148:XFunc:=⟨2,
(Sn [
bx 2 0,bx 3 1,ic 4 0] [2,3]
(.seq
(Sn [
fa 5 1 2,ln 6 5,fa 7 1 3,ln 8 7,bt 9 .neq 6 8] [2,3,9]
(Cd 9
(.seq
(Sn [
fa 10 1 2,ln 11 10,fa 12 1 3,ln 13 12,bt 14 .lss 11 13] [14]
(Cd 14
(Sn [
ic 4 (-1)] [4]
.ret)
.skip))
(Sn [
ic 4 1] [4]
.ret))
.skip))
(.seq
(Sn [
fa 15 2 2,ln 16 15,fa 17 2 3,ln 18 17,bt 19 .neq 16 18] [2,3,19]
(Cd 19
(.seq
(Sn [
fa 20 2 2,ln 21 20,fa 22 2 3,ln 23 22,bt 24 .lss 21 23] [24]
(Cd 24
(Sn [
ic 4 (-1)] [4]
.ret)
.skip))
(Sn [
ic 4 1] [4]
.ret))
.skip))
(Sn [
ic 4 0] [4]
.ret)))),
[.tmp 4]⟩
theorem x148_ok:ck x148 148:=by decide+kernel
def x149:XFunc:=⟨3,
(Sn [
bx 3 0,bx 4 1,bx 5 2,ic 6 0] [3,4,5]
(Ss [0,1,0,4,15,0,32,127,0,256,0,1024,3840,0,8192,32767,65535,131071,262143] [
fa 7 1 3,ln 8 7,fa 9 1 4,ln 10 9,bt 11 .sub 8 10,fa 12 1 5,ln 13 12,p2 14 146 11 13,fa 15 2 3,ln 16 15,fa 17 2 4,ln 18 17,bt 19 .sub 16 18,
fa 20 0 5,ln 21 20,p2 22 146 19 21,p2 23 161 14 22,p1 24 147 23,mv 6 24] [6]
.ret)),
[.tmp 6]⟩
theorem x149_ok:ck x149 149:=by decide+kernel
def x150:XFunc:=⟨2,
(Sn [
Al 4 z7,ic 5 0] [0,1,4]
(.seq
(Sn [
mv 7 1,bc 8 .eql 7 0] [0,1,4,8]
(Cd 8
(Sn [
Bu 9 z7 [],st 2 4 9,ic 5 26] [4,5]
.ret)
.skip))
(Sn [
mv 10 0,p1 11 83 10,mv 12 1,p1 13 83 12,p2 14 82 11 13,mv 6 14] [0,1,4,6]
(Ss [0,1,0,4,15,31,63,127,255,0,575,0,3647,7743,0,17983,0,116287,247359,524287,1048575,1048575,4194303,8388607] [
mv 15 0,bc 16 .lss 15 0,mv 17 1,bc 18 .lss 17 0,⟨some 19,.binb true (.t 16) (.t 18),none⟩,mv 20 19,Gt 20 (mv 21 0),Gt 20 (bc 22 .neq 21 0),
pan 23 20 22,mv 24 0,p1 25 83 24,mv 26 6,bt 27 .quo 25 26,Bu 28 z5 [(2,1,(.t 27))],mv 29 1,p1 30 83 29,mv 31 6,
bt 32 .quo 30 31,Bu 33 z5 [(2,1,(.t 32))],p3 34 162 23 28 33,ex 35 0 34,ex 36 1 34,st 2 4 35,mv 5 36] [4,5]
.ret)))),
[.cell 4 (some 2),.tmp 5]⟩
theorem x150_ok:ck x150 150:=by decide+kernel
def x151:XFunc:=⟨1,
(Sn [
Fl 2] [0]
(Sn [
mv 3 0,mv 4 0,bt 5 .neq 3 4,mv 2 5] [2]
.ret)),
[.tmp 2]⟩
theorem x151_ok:ck x151 151:=by decide+kernel
def x152:XFunc:=⟨2,
(Sn [
ic 4 0] [0,1]
(Sn [
mv 7 0,p1 8 163 7,mv 5 8] [0,1,5]
(Sn [
mv 9 1,p1 10 163 9,mv 6 10] [0,1,5,6]
(.seq
(Sn [
mv 11 5] [0,1,6,11]
(Cd 11
(.seq
(Sn [
mv 12 6] [12]
(Cd 12
(Sn [
ic 4 0] [4]
.ret)
.skip))
(Sn [
ic 4 (-1)] [4]
.ret))
.skip))
(.seq
(Sn [
mv 13 6] [0,1,13]
(Cd 13
(Sn [
ic 4 1] [4]
.ret)
.skip))
(.seq
(Sn [
mv 14 0,mv 15 1,bt 16 .lss 14 15] [0,1,16]
(Cd 16
(Sn [
ic 4 (-1)] [4]
.ret)
.skip))
(.seq
(Sn [
mv 17 0,mv 18 1,bt 19 .gtr 17 18] [19]
(Cd 19
(Sn [
ic 4 1] [4]
.ret)
.skip))
(Sn [
ic 4 0] [4]
.ret)))))))),
[.tmp 4]⟩
theorem x152_ok:ck x152 152:=by decide+kernel
def x153:XFunc:=⟨2,
(Sn [
⟨some 4,.mov (.c (.int .u64 0)),none⟩,⟨some 5,.mov (.c (.int .u64 0)),none⟩] [0,1]
(Sn [
mv 14 0,⟨some 15,.bin .and (.t 14) (.c (.int .u64 4294967295)),none⟩,mv 6 15] [0,1,6]
(Sn [
mv 16 0,⟨some 17,.bin .shr (.t 16) (.c (.int .u64 32)),none⟩,mv 7 17] [0,1,6,7]
(Sn [
mv 18 1,⟨some 19,.bin .and (.t 18) (.c (.int .u64 4294967295)),none⟩,mv 8 19] [0,1,6,7,8]
(Sn [
mv 20 1,⟨some 21,.bin .shr (.t 20) (.c (.int .u64 32)),none⟩,mv 9 21] [0,1,6,7,8,9]
(Sn [
mv 22 6,mv 23 8,bt 24 .mul 22 23,mv 10 24] [0,1,6,7,8,9,10]
(Sn [
mv 25 7,mv 26 8,bt 27 .mul 25 26,mv 28 10,⟨some 29,.bin .shr (.t 28) (.c (.int .u64 32)),none⟩,bt 30 .add 27 29,mv 11 30] [0,1,6,7,9,11]
(Sn [
mv 31 11,⟨some 32,.bin .and (.t 31) (.c (.int .u64 4294967295)),none⟩,mv 12 32] [0,1,6,7,9,11,12]
(Sn [
mv 33 11,⟨some 34,.bin .shr (.t 33) (.c (.int .u64 32)),none⟩,mv 13 34] [0,1,6,7,9,12,13]
(Sn [
mv 35 12,mv 36 6,mv 37 9,bt 38 .mul 36 37,bt 39 .add 35 38,mv 12 39] [0,1,7,9,12,13]
(Sn [
mv 40 7,mv 41 9,bt 42 .mul 40 41,mv 43 13,bt 44 .add 42 43,mv 45 12,⟨some 46,.bin .shr (.t 45) (.c (.int .u64 32)),none⟩,bt 47 .add 44 46,
mv 4 47] [0,1,4]
(Sn [
mv 48 0,mv 49 1,bt 50 .mul 48 49,mv 5 50] [4,5]
.ret)))))))))))),
[.tmp 4,.tmp 5]⟩
theorem x153_ok:ck x153 153:=by decide+kernel
def x155:XFunc:=⟨3,
(Sn [
bx 3 0,Al 6 z7,ic 7 0] [1,2,3,6]
(.seq
(Sn [
fa 9 1 3,ln 10 9,⟨some 11,.bin .gtr (.t 10) (.c (.int .u64 0)),none⟩,mv 12 11,Gf 12 (fa 13 2 3),Gf 12 (ln 14 13),
Gf 12 (⟨some 15,.bin .gtr (.t 14) (.c (.int .u64 9223372036854775807)),none⟩),por 16 12 15,mv 17 16,Gf 17 (mv 18 1),
Gf 17 (⟨some 19,.bin .gtr (.t 18) (.c (.int .u64 0)),none⟩),por 20 17 19,mv 21 20,Gf 21 (mv 22 2),
Gf 21 (⟨some 23,.bin .gtr (.t 22) (.c (.int .u64 9223372036854775807)),none⟩),por 24 21 23] [2,3,6,24]
(Cd 24
(Sn [
Bu 25 z7 [],st 2 6 25,ic 7 16] [6,7]
.ret)
.skip))
(Sn [
fa 26 2 3,ln 27 26,⟨some 28,.conv .i64 (.t 27),none⟩,mv 29 2,⟨some 30,.conv .i64 (.t 29),none⟩,
Bu 31 z7 [(0,1,(.t 28)),(1,1,(.t 30))],Al 8 z7,st 2 8 31] [3,6,8]
(.seq
(Sn [
fa 32 0 3,ln 33 32] [6,8,33]
(Cd 33
(Rn [
fa 34 0 8,ln 35 34,⟨some 36,.un .neg (.t 35),none⟩,fa 37 0 8,st 1 37 36] [6,8])
.skip))
(Sn [
ld 38 2 8,st 2 6 38,ic 7 0] [6,7]
.ret))))),
[.cell 6 (some 2),.tmp 7]⟩
theorem x155_ok:ck x155 155:=by decide+kernel
def x156:XFunc:=⟨3,
(Sn [
ic 6 0,Fl 7] [0,1,2]
(Sn [
mv 12 0,le 13 12,mv 8 13] [0,1,2,8]
(Sn [
mv 14 8,ic 9 0,mv 10 14] [0,1,2,8,9,10]
(.seq
(.block 0
(.loop [(0,none),(1,none),(2,none),(8,none),(9,none),(10,none)]
(.seq
(Sn [
mv 15 9,mv 16 10,bt 17 .lss 15 16] [0,1,2,8,9,10,17]
(Cd 17
.skip
(.exit 0)))
(.block 1
(Sn [
mv 18 9,mv 19 10,bt 20 .add 18 19,⟨some 21,.conv .u64 (.t 20),none⟩,⟨some 22,.bin .shr (.t 21) (.c (.int .u64 1)),none⟩,
⟨some 23,.conv .i64 (.t 22),none⟩,mv 11 23] [0,1,2,8,9,10,11]
(Sn [
mv 24 2,mv 25 0,mv 26 11,ia 27 3 25 26,ld 28 3 27,mv 29 1,⟨some 30,.callv (.t 24) [(.t 28),(.t 29)],none⟩,bc 31 .lss 30 0] [0,1,2,8,9,10,11,31]
(Cd 31
(Rn [
mv 32 11,bc 33 .add 32 1,mv 9 33] [0,1,2,8,9,10])
(Rn [
mv 34 11,mv 10 34] [0,1,2,8,9,10]))))))))
(Sn [
mv 35 9,mv 36 9,mv 37 8,bt 38 .lss 36 37,mv 39 38,Gt 39 (mv 40 2),Gt 39 (mv 41 0),Gt 39 (mv 42 9),Gt 39 (ia 43 3 41 42),Gt 39 (ld 44 3 43),
Gt 39 (mv 45 1),Gt 39 (⟨some 46,.callv (.t 40) [(.t 44),(.t 45)],none⟩),Gt 39 (bc 47 .eql 46 0),pan 48 39 47,mv 6 35,mv 7 48] [6,7]
.ret))))),
[.tmp 6,.tmp 7]⟩
theorem x156_ok:ck x156 156:=by decide+kernel
def x157:XFunc:=⟨2,
(Sn [
bx 2 0,ic 4 0] [1,2]
(Sn [
fa 5 0 2,ln 6 5,mv 7 1,p2 8 102 6 7,mv 4 8] [4]
.ret)),
[.tmp 4]⟩
theorem x157_ok:ck x157 157:=by decide+kernel
def x159:XFunc:=⟨2,
(Sn [
⟨some 4,.mov (.c (.sl 1 true [])),none⟩] [0,1]
(Sn [
mv 5 0,p1 6 158 5,mv 7 1,⟨some 8,.mkrow 1 1 [.int .i64 0] [(0,(.t 7))],none⟩,ap 9 1 6 8,mv 4 9] [4]
.ret)),
[.tmp 4]⟩
theorem x159_ok:ck x159 159:=by decide+kernel
def x160:XFunc:=⟨2,
(Sn [
Al 4 z5] [0,1,4]
(Sn [
mv 12 0,⟨some 13,.bin .quo (.t 12) (.c (.int .u64 4294967296)),none⟩,mv 14 0,⟨some 15,.bin .rem (.t 14) (.c (.int .u64 4294967296)),none⟩,mv 16 1,
⟨some 17,.bin .quo (.t 16) (.c (.int .u64 4294967296)),none⟩,mv 18 1,⟨some 19,.bin .rem (.t 18) (.c (.int .u64 4294967296)),none⟩,mv 5 13,mv 6 15,
mv 7 17,mv 8 19] [4,5,6,7,8]
(Sn [
mv 20 6,mv 21 8,bt 22 .mul 20 21,mv 9 22] [4,5,6,7,8,9]
(Sn [
mv 23 5,mv 24 8,bt 25 .mul 23 24,mv 26 9,⟨some 27,.bin .quo (.t 26) (.c (.int .u64 4294967296)),none⟩,bt 28 .add 25 27,mv 10 28] [4,5,6,7,9,10]
(Sn [
mv 29 6,mv 30 7,bt 31 .mul 29 30,mv 32 10,⟨some 33,.bin .rem (.t 32) (.c (.int .u64 4294967296)),none⟩,bt 34 .add 31 33,mv 11 34] [4,5,7,9,10,11]
(Sn [
mv 35 5,mv 36 7,bt 37 .mul 35 36,mv 38 10,⟨some 39,.bin .quo (.t 38) (.c (.int .u64 4294967296)),none⟩,bt 40 .add 37 39,mv 41 11,
⟨some 42,.bin .quo (.t 41) (.c (.int .u64 4294967296)),none⟩,bt 43 .add 40 42,mv 44 11,⟨some 45,.bin .rem (.t 44) (.c (.int .u64 4294967296)),none⟩,
⟨some 46,.bin .mul (.t 45) (.c (.int .u64 4294967296)),none⟩,mv 47 9,⟨some 48,.bin .rem (.t 47) (.c (.int .u64 4294967296)),none⟩,bt 49 .add 46 48,
Bu 50 z5 [(1,1,(.t 43)),(2,1,(.t 49))],st 3 4 50] [4]
.ret)))))),
[.cell 4 (some 3)]⟩
theorem x160_ok:ck x160 160:=by decide+kernel
def x161:XFunc:=⟨2,
(Sn [
bx 2 0,bx 3 1,Al 4 z5] [2,3,4]
(.seq
(Sn [
fa 8 0 2,ln 9 8,fa 10 0 3,ln 11 10,⟨some 12,.binb false (.t 9) (.t 11),none⟩] [2,3,4,12]
(Cd 12
(Sn [
fa 13 0 2,ln 14 13,fa 15 1 2,ln 16 15,fa 17 1 3,ln 18 17,bt 19 .add 16 18,fa 20 2 2,ln 21 20,fa 22 2 3,ln 23 22,bt 24 .add 21 23,
Bu 25 z5 [(0,1,(.t 14)),(1,1,(.t 19)),(2,1,(.t 24))],Al 5 z5,
st 3 5 25] [2,4,5]
(.seq
(Sn [
fa 26 2 5,ln 27 26,fa 28 2 2,ln 29 28,bt 30 .lss 27 29] [4,5,30]
(Cd 30
(Rn [
fa 31 1 5,ln 32 31,⟨some 33,.bin .add (.t 32) (.c (.int .u64 1)),none⟩,fa 34 1 5,st 1 34 33] [4,5])
.skip))
(Sn [
ld 35 3 5,st 3 4 35] [4]
.ret)))
.skip))
(.seq
(Sn [
ld 36 3 2,ld 37 3 3,p2 38 148 36 37,bc 39 .geq 38 0] [2,3,4,39]
(Cd 39
(Sn [
ld 40 3 2,ld 41 3 3,p2 42 164 40 41,Al 6 z5,st 3 6 42] [2,4,6]
(Sn [
fa 43 0 2,ln 44 43,mv 45 44,Gt 45 (fa 46 1 6),Gt 45 (ln 47 46),Gt 45 (⟨some 48,.bin .gtr (.t 47) (.c (.int .u64 0)),none⟩),Gt 45 (mv 49 48),
Gf 49 (fa 50 2 6),Gf 49 (ln 51 50),Gf 49 (⟨some 52,.bin .gtr (.t 51) (.c (.int .u64 0)),none⟩),Gt 45 (por 53 49 52),pan 54 45 53,fa 55 0 6,
st 1 55 54] [4,6]
(Sn [
ld 56 3 6,st 3 4 56] [4]
.ret)))
.skip))
(Sn [
ld 57 3 3,ld 58 3 2,p2 59 164 57 58,Al 7 z5,st 3 7 59] [3,4,7]
(Sn [
fa 60 0 3,ln 61 60,fa 62 0 7,st 1 62 61] [4,7]
(Sn [
ld 63 3 7,st 3 4 63] [4]
.ret)))))),
[.cell 4 (some 3)]⟩
theorem x161_ok:ck x161 161:=by decide+kernel
def x162:XFunc:=⟨3,
(Sn [
bx 4 1,bx 5 2,Al 6 z7,ic 7 0] [0,4,5,6]
(.seq
(Sn [
fa 8 1 4,ln 9 8,⟨some 10,.bin .gtr (.t 9) (.c (.int .u64 0)),none⟩,mv 11 10,Gf 11 (fa 12 2 4),Gf 11 (ln 13 12),
Gf 11 (⟨some 14,.bin .gtr (.t 13) (.c (.int .u64 9223372036854775807)),none⟩),por 15 11 14,mv 16 15,Gf 16 (fa 17 1 5),Gf 16 (ln 18 17),
Gf 16 (⟨some 19,.bin .gtr (.t 18) (.c (.int .u64 0)),none⟩),por 20 16 19,mv 21 20,Gf 21 (fa 22 2 5),Gf 21 (ln 23 22),
Gf 21 (⟨some 24,.bin .gtr (.t 23) (.c (.int .u64 9223372036854775807)),none⟩),por 25 21 24] [0,4,5,6,25]
(Cd 25
(Sn [
Bu 26 z7 [],st 2 6 26,ic 7 16] [6,7]
.ret)
.skip))
(.seq
(Sn [
mv 27 0] [4,5,6,27]
(Cd 27
(Sn [
fa 28 2 4,ln 29 28,⟨some 30,.conv .i64 (.t 29),none⟩,⟨some 31,.un .neg (.t 30),none⟩,fa 32 2 5,ln 33 32,⟨some 34,.conv .i64 (.t 33),none⟩,
Bu 35 z7 [(0,1,(.t 31)),(1,1,(.t 34))],st 2 6 35,ic 7 0] [6,7]
.ret)
.skip))
(Sn [
fa 36 2 4,ln 37 36,⟨some 38,.conv .i64 (.t 37),none⟩,fa 39 2 5,ln 40 39,⟨some 41,.conv .i64 (.t 40),none⟩,
Bu 42 z7 [(0,1,(.t 38)),(1,1,(.t 41))],st 2 6 42,ic 7 0] [6,7]
.ret)))),
[.cell 6 (some 2),.tmp 7]⟩
theorem x162_ok:ck x162 162:=by decide+kernel
def x163:XFunc:=⟨1,
(Sn [
Fl 2] [0]
(Sn [
mv 3 0,mv 4 0,bt 5 .neq 3 4,mv 2 5] [2]
.ret)),
[.tmp 2]⟩
theorem x163_ok:ck x163 163:=by decide+kernel
def x164:XFunc:=⟨2,
(Sn [
bx 2 0,bx 3 1,Al 4 z5] [2,3,4]
(Sn [
fa 6 1 2,ln 7 6,fa 8 1 3,ln 9 8,bt 10 .sub 7 9,fa 11 2 2,ln 12 11,fa 13 2 3,ln 14 13,bt 15 .sub 12 14,
Bu 16 z5 [(1,1,(.t 10)),(2,1,(.t 15))],Al 5 z5,st 3 5 16] [2,3,4,5]
(.seq
(Sn [
fa 17 2 2,ln 18 17,fa 19 2 3,ln 20 19,bt 21 .lss 18 20] [4,5,21]
(Cd 21
(Rn [
fa 22 1 5,ln 23 22,⟨some 24,.bin .sub (.t 23) (.c (.int .u64 1)),none⟩,fa 25 1 5,st 1 25 24] [4,5])
.skip))
(Sn [
ld 26 3 5,st 3 4 26] [4]
.ret)))),
[.cell 4 (some 3)]⟩
theorem x164_ok:ck x164 164:=by decide+kernel
end Go.Proofs.YtjikemfbommnlaaGreat
