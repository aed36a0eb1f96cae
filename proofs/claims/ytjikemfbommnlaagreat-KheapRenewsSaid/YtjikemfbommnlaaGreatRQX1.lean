/- Functions of the seat as the logical machine runs them, and the look at each of them (1). Printed by a program. -/
import Derived.Test.YtjikemfbommnlaaGreatRVm2
import Derived.Test.YtjikemfbommnlaaGreatProg
set_option maxRecDepth 100000
namespace Go.Proofs.YtjikemfbommnlaaGreat
open Go.Vm
abbrev mv (d s:Nat):XOper:=⟨some d,.mov (.t s),none⟩
abbrev ic (d:Nat) (n:Int):XOper:=⟨some d,.mov (.c (.int .i64 n)),none⟩
abbrev ld (d a s:Nat):XOper:=⟨some d,.load (some a) (.t s),none⟩
abbrev ln (d s:Nat):XOper:=⟨some d,.load none (.t s),none⟩
abbrev fa (d o s:Nat):XOper:=⟨some d,.fadr o (.t s),none⟩
abbrev st (z p s:Nat):XOper:=⟨none,.store z (.t p) (.t s),none⟩
abbrev ex (d i s:Nat):XOper:=⟨some d,.ext i (.t s),none⟩
abbrev bx (d s:Nat):XOper:=⟨some d,.box (.t s),none⟩
abbrev le (d s:Nat):XOper:=⟨some d,.len (.t s),none⟩
abbrev ia (d z s i:Nat):XOper:=⟨some d,.iadr z (.t s) (.t i),none⟩
abbrev bt (d:Nat) (o:BinOp) (a b:Nat):XOper:=⟨some d,.bin o (.t a) (.t b),none⟩
abbrev bc (d:Nat) (o:BinOp) (a:Nat) (n:Int):XOper:=⟨some d,.bin o (.t a) (.c (.int .i64 n)),none⟩
abbrev ap (d z a b:Nat):XOper:=⟨some d,.append z (.t a) (.t b),none⟩
abbrev por (d a b:Nat):XOper:=⟨some d,.pick (.t a) (.c (.bool true)) (.t b),none⟩
abbrev pan (d a b:Nat):XOper:=⟨some d,.pick (.t a) (.t b) (.c (.bool false)),none⟩
abbrev p1 (d f a:Nat):XOper:=⟨some d,.call .pur f [(.t a)],none⟩
abbrev p2 (d f a b:Nat):XOper:=⟨some d,.call .pur f [(.t a),(.t b)],none⟩
abbrev p3 (d f a b c:Nat):XOper:=⟨some d,.call .pur f [(.t a),(.t b),(.t c)],none⟩
abbrev p4 (d f a b c e:Nat):XOper:=⟨some d,.call .pur f [(.t a),(.t b),(.t c),(.t e)],none⟩
abbrev Fl (d:Nat):XOper:=⟨some d,.mov (.c (.bool false)),none⟩
abbrev Tr (d:Nat):XOper:=⟨some d,.mov (.c (.bool true)),none⟩
abbrev Al (d:Nat) (z:List PV):XOper:=⟨some d,.alloc z,none⟩
abbrev Bu (d:Nat) (z:List PV) (l:List (Nat×Nat×Opd)):XOper:=⟨some d,.build z l,none⟩
abbrev No (d s:Nat):XOper:=⟨some d,.un .not (.t s),none⟩
abbrev Gf (c:Nat) (o:XOper):XOper:=⟨o.dst,o.op,some (c,false)⟩
abbrev Gt (c:Nat) (o:XOper):XOper:=⟨o.dst,o.op,some (c,true)⟩
abbrev Rn (l:List XOper) (k:List Nat):XCode:= .region none l k
abbrev Rs (r:List Nat) (l:List XOper) (k:List Nat):XCode:= .region (some r) l k
abbrev Sn (l:List XOper) (k:List Nat) (c:XCode):XCode:= .seq (.region none l k) c
abbrev Ss (r:List Nat) (l:List XOper) (k:List Nat) (c:XCode):XCode:= .seq (.region (some r) l k) c
abbrev Cd (t:Nat) (a b:XCode):XCode:= .cond (.t t) a b
abbrev z0:List PV:=[.int .i64 0,.int .i64 0,.sl 3 true [],.int .i64 0,.sl 3 true [],.sl 1 true [],.sl 1 true [],.sl 1 true [],.sl 5 true [],.sl 1 true [],.sl 3 true []]
abbrev z1:List PV:=[.sl 1 true [],.sl 1 true [],.sl 1 true [],.sl 5 true [],.sl 1 true []]
abbrev z2:List PV:=[.int .i64 0,.int .i64 0,.int .i64 0,.int .i64 0,.int .i64 0]
abbrev z3:List PV:=[.sl 1 true [],.sl 1 true [],.sl 1 true []]
abbrev z4:List PV:=[.int .i64 0,.int .i64 0,.int .i64 0]
abbrev z5:List PV:=[.bool false,.int .u64 0,.int .u64 0]
abbrev z6:List PV:=[.int .i64 0,.sl 3 true []]
abbrev z7:List PV:=[.int .i64 0,.int .i64 0]
abbrev z8:List PV:=[.int .i64 0,.int .u64 0]
abbrev ck (x:XFunc) (n:Nat):Prop:=chkFunc Go.Proofs.Tryz.prog (fun _=>true) x n=true
def x3:XFunc:=⟨3,
(Sn [
bx 3 0,bx 4 1,Fl 6] [2,3,4]
(.seq
(Sn [
ld 12 11 3,p1 13 4 12,mv 14 13,Gf 14 (ld 15 1 4),Gf 14 (p1 16 5 15),por 17 14 16,mv 18 17,Gf 18 (mv 19 2),Gf 18 (le 20 19),Gf 18 (bc 21 .gtr 20 40),
por 22 18 21] [2,3,4,22]
(Cd 22
(Sn [
Tr 6] [6]
.ret)
.skip))
(Sn [
ld 23 11 3,⟨some 24,.call .own 6 [(.t 23)],none⟩,
Al 7 z0,
st 11 7 24] [2,3,4,7]
(Sn [
ld 26 11 7,ld 27 1 4,mv 28 2,p3 29 7 26 27 28,mv 25 29,ex 30 0 25,ex 31 1 25,
Al 8 z0,
st 11 8 30,mv 9 31] [2,3,4,7,8,9]
(Sn [
ld 33 11 3,ld 34 1 4,mv 35 2,p3 36 8 33 34 35,mv 32 36,ex 37 0 32,ex 38 1 32,
Al 10 z0,
st 11 10 37,mv 11 38] [3,7,8,9,10,11]
(Sn [
ld 39 11 8,ld 40 11 10,p2 41 9 39 40,mv 42 41,Gt 42 (mv 43 9),Gt 42 (mv 44 11),Gt 42 (bt 45 .eql 43 44),pan 46 42 45,mv 47 46,Gt 47 (ld 48 11 7),
Gt 47 (ld 49 11 3),Gt 47 (p2 50 9 48 49),pan 51 47 50,mv 6 51] [6]
.ret)))))),
[.tmp 6]⟩
theorem x3_ok:ck x3 3:=by decide+kernel
def x4:XFunc:=⟨1,
(Sn [
bx 1 0,Fl 2] [1]
(Sn [
fa 3 3 1,fa 4 1 3,ln 5 4,le 6 5,bc 7 .gtr 6 40,mv 8 7,Gf 8 (fa 9 10 1),Gf 8 (ln 10 9),Gf 8 (le 11 10),Gf 8 (bc 12 .gtr 11 40),por 13 8 12,mv 14 13,
Gf 14 (fa 15 2 1),Gf 14 (ld 16 1 15),Gf 14 (p1 17 5 16),por 18 14 17,mv 19 18,Gf 19 (fa 20 5 1),Gf 19 (ld 21 5 20),Gf 19 (p1 22 10 21),por 23 19 22,
mv 2 23] [2]
.ret)),
[.tmp 2]⟩
theorem x4_ok:ck x4 4:=by decide+kernel
def x5:XFunc:=⟨1,
(Sn [
bx 1 0,Fl 2] [1]
(Sn [
fa 3 0 1,ln 4 3,le 5 4,bc 6 .gtr 5 16,mv 7 6,Gt 7 (fa 8 0 1),Gt 7 (ln 9 8),Gt 7 (le 10 9),Gt 7 (bc 11 .lss 10 64),pan 12 7 11,mv 13 12,
Gf 13 (fa 14 0 1),Gf 13 (ln 15 14),Gf 13 (le 16 15),Gf 13 (bc 17 .gtr 16 70),por 18 13 17,mv 2 18] [2]
.ret)),
[.tmp 2]⟩
theorem x5_ok:ck x5 5:=by decide+kernel
def x6:XFunc:=⟨1,
(Sn [
bx 1 0,
Al 2 z0] [1,2]
(Ss [0,1,0,4,12,0,32,124,0,256,1020,0,0,4096,16380,32767,65535] [
fa 3 0 1,ld 4 2 3,fa 5 2 1,ld 6 1 5,⟨some 7,.call .own 11 [(.t 6)],none⟩,fa 8 3 1,ld 9 2 8,⟨some 10,.call .own 12 [(.t 9)],none⟩,fa 11 5 1,
ld 12 5 11,⟨some 13,.call .own 13 [(.t 12)],none⟩,⟨some 14,.mkrow 3 0 z4 [],none⟩,fa 15 10 1,ln 16 15,
ap 17 3 14 16,
Bu 18 z0 [(0,2,(.t 4)),(2,1,(.t 7)),(3,2,(.t 10)),(5,5,(.t 13)),(10,1,(.t 17))],
st 11 2 18] [2]
.ret)),
[.cell 2 (some 11)]⟩
theorem x6_ok:ck x6 6:=by decide+kernel
def x7:XFunc:=⟨3,
(Sn [
bx 3 0,bx 4 1,
Al 6 z0,
ic 7 0] [2,3,4,6]
(.seq
(Sn [
ld 20 11 3,p1 21 14 20,mv 8 21] [2,3,4,6,8]
(Sn [
mv 22 8,bc 23 .neq 22 0] [2,3,4,6,8,23]
(Cd 23
(Sn [
Bu 24 z0 [],
mv 25 8,st 11 6 24,mv 7 25] [6,7]
.ret)
.skip)))
(.seq
(Sn [
ld 26 1 4,p1 27 15 26,mv 9 27] [2,3,4,6,9]
(Sn [
mv 28 9,bc 29 .neq 28 0] [2,3,4,6,9,29]
(Cd 29
(Sn [
Bu 30 z0 [],
mv 31 9,st 11 6 30,mv 7 31] [6,7]
.ret)
.skip)))
(.seq
(Sn [
mv 32 2,le 33 32,ic 34 0] [2,3,4,6,32,33,34]
(.block 0
(.loop [(2,none),(3,none),(4,none),(6,none),(32,none),(33,none),(34,none)]
(Sn [
bt 35 .lss 34 33] [2,3,4,6,32,33,34,35]
(.seq
(Cd 35
.skip
(.exit 0))
(.seq
(.block 1
(Sn [
ia 36 2 32 34,ld 37 2 36,Al 11 z7,st 2 11 37] [2,3,4,6,11,32,33,34]
(Sn [
fa 38 0 11,ln 39 38,bc 40 .lss 39 0,mv 41 40,Gf 41 (fa 42 1 11),Gf 41 (ln 43 42),Gf 41 (bc 44 .lss 43 0),por 45 41 44,mv 46 45,Gf 46 (fa 47 0 11),
Gf 46 (ln 48 47),Gf 46 (bc 49 .gtr 48 65535),por 50 46 49,mv 51 50,Gf 51 (fa 52 1 11),Gf 51 (ln 53 52),Gf 51 (bc 54 .gtr 53 65535),por 55 51 54,
mv 56 55,Gf 56 (fa 57 0 11),Gf 56 (ln 58 57),Gf 56 (fa 59 1 11),Gf 56 (ln 60 59),Gf 56 (bt 61 .eql 58 60),por 62 56 61] [2,3,4,6,32,33,34,62]
(Cd 62
(Sn [
Bu 63 z0 [],
st 11 6 63,ic 7 8] [6,7]
.ret)
.skip))))
(Rn [
bc 64 .add 34 1,mv 34 64] [2,3,4,6,32,33,34])))))))
(.seq
(Sn [
mv 65 2,le 66 65,ic 67 0] [2,3,4,6,65,66,67]
(.block 2
(.loop [(2,none),(3,none),(4,none),(6,none),(65,none),(66,none),(67,none)]
(Sn [
bt 68 .lss 67 66] [2,3,4,6,65,66,67,68]
(.seq
(Cd 68
.skip
(.exit 2))
(.seq
(.block 3
(Sn [
mv 69 67,ia 70 2 65 67,ld 71 2 70,Al 13 z7,mv 12 69,st 2 13 71] [2,3,4,6,12,13,65,66,67]
(Ss [0,0,3,0,15] [
mv 72 2,mv 73 12,⟨some 74,.slc 2 (.t 72) none (some (.t 73)) none,none⟩,ld 75 2 13,p2 76 16 74 75] [2,3,4,6,65,66,67,76]
(Cd 76
(Sn [
Bu 77 z0 [],
st 11 6 77,ic 7 14] [6,7]
.ret)
.skip))))
(Rn [
bc 78 .add 67 1,mv 67 78] [2,3,4,6,65,66,67])))))))
(.seq
(Sn [
mv 79 2,le 80 79,ic 81 0] [2,3,4,6,79,80,81]
(.block 4
(.loop [(2,none),(3,none),(4,none),(6,none),(79,none),(80,none),(81,none)]
(Sn [
bt 82 .lss 81 80] [2,3,4,6,79,80,81,82]
(.seq
(Cd 82
.skip
(.exit 4))
(.seq
(.block 5
(Sn [
ia 83 2 79 81,ld 84 2 83,Al 15 z7,st 2 15 84] [2,3,4,6,15,79,80,81]
(Sn [
ld 86 1 4,fa 87 0 15,ln 88 87,p2 89 17 86 88,mv 85 89,ex 90 0 85,ex 91 1 85,Al 16 z4,st 3 16 90,
mv 17 91] [2,3,4,6,15,17,79,80,81]
(Sn [
ld 93 1 4,fa 94 1 15,ln 95 94,p2 96 17 93 95,mv 92 96,ex 97 0 92,ex 98 1 92,Al 18 z4,st 3 18 97,
mv 19 98] [2,3,4,6,17,19,79,80,81]
(Sn [
mv 99 17,bc 100 .neq 99 0,mv 101 100,Gf 101 (mv 102 19),Gf 101 (bc 103 .neq 102 0),por 104 101 103] [2,3,4,6,79,80,81,104]
(Cd 104
(Sn [
Bu 105 z0 [],
st 11 6 105,ic 7 6] [6,7]
.ret)
.skip))))))
(Rn [
bc 106 .add 81 1,mv 81 106] [2,3,4,6,79,80,81])))))))
(Ss [0,1,0,0,15,31,31,127,255] [
ld 107 11 3,⟨some 108,.call .own 19 [(.t 107)],none⟩,ld 109 1 4,mv 110 2,p3 111 18 108 109 110,ex 112 0 111,ex 113 1 111,st 11 6 112,mv 7 113] [6,7]
.ret))))))),
[.cell 6 (some 11),.tmp 7]⟩
theorem x7_ok:ck x7 7:=by decide+kernel
def x8:XFunc:=⟨3,
(Sn [
bx 3 0,bx 4 1,
Al 6 z0,
ic 7 0] [2,3,4,6]
(.seq
(Sn [
ld 8 11 3,p1 9 20 8,bc 10 .neq 9 0] [2,3,4,6,10]
(Cd 10
(Sn [
Bu 11 z0 [],
ld 12 11 3,p1 13 20 12,st 11 6 11,mv 7 13] [6,7]
.ret)
.skip))
(.seq
(Sn [
ld 14 1 4,p1 15 21 14,bc 16 .neq 15 0] [2,3,4,6,16]
(Cd 16
(Sn [
Bu 17 z0 [],
ld 18 1 4,p1 19 21 18,st 11 6 17,mv 7 19] [6,7]
.ret)
.skip))
(.seq
(Sn [
ld 20 1 4,mv 21 2,p2 22 22 20 21,bc 23 .neq 22 0] [2,3,4,6,23]
(Cd 23
(Sn [
Bu 24 z0 [],
ld 25 1 4,mv 26 2,p2 27 22 25 26,st 11 6 24,mv 7 27] [6,7]
.ret)
.skip))
(Sn [
ld 28 11 3,ld 29 1 4,mv 30 2,p3 31 23 28 29 30,ex 32 0 31,ex 33 1 31,st 11 6 32,mv 7 33] [6,7]
.ret))))),
[.cell 6 (some 11),.tmp 7]⟩
theorem x8_ok:ck x8 8:=by decide+kernel
def x9:XFunc:=⟨2,
(Sn [
bx 2 0,bx 3 1,Fl 4] [2,3]
(.seq
(Sn [
fa 6 0 2,ld 7 2 6,fa 8 0 3,ld 9 2 8,⟨some 10,.eqc 2 true (.t 7) (.t 9),none⟩,mv 11 10,Gf 11 (fa 12 2 2),Gf 11 (ld 13 1 12),Gf 11 (fa 14 2 3),
Gf 11 (ld 15 1 14),Gf 11 (p2 16 24 13 15),Gf 11 (No 17 16),por 18 11 17,mv 19 18,Gf 19 (fa 20 3 2),Gf 19 (ld 21 2 20),Gf 19 (fa 22 3 3),
Gf 19 (ld 23 2 22),Gf 19 (p2 24 25 21 23),Gf 19 (No 25 24),por 26 19 25,mv 27 26,Gf 27 (fa 28 5 2),Gf 27 (ld 29 5 28),Gf 27 (fa 30 5 3),
Gf 27 (ld 31 5 30),Gf 27 (p2 32 26 29 31),Gf 27 (No 33 32),por 34 27 33,mv 35 34,Gf 35 (fa 36 10 2),Gf 35 (ln 37 36),Gf 35 (le 38 37),
Gf 35 (fa 39 10 3),Gf 35 (ln 40 39),Gf 35 (le 41 40),Gf 35 (bt 42 .neq 38 41),por 43 35 42] [2,3,43]
(Cd 43
(Sn [
Fl 4] [4]
.ret)
.skip))
(.seq
(Sn [
ic 5 0] [2,3,5]
(.block 0
(.loop [(2,none),(3,none),(5,none)]
(.seq
(Sn [
mv 44 5,fa 45 10 2,ln 46 45,le 47 46,bt 48 .lss 44 47] [2,3,5,48]
(Cd 48
.skip
(.exit 0)))
(.seq
(.block 1
(Ss [0,1,0,7,15,0,32,0,224,480,1023] [
fa 51 10 2,ln 52 51,mv 53 5,ia 54 3 52 53,ld 55 3 54,fa 56 10 3,ln 57 56,mv 58 5,ia 59 3 57 58,ld 60 3 59,
⟨some 61,.eqc 3 true (.t 55) (.t 60),none⟩] [2,3,5,61]
(Cd 61
(Sn [
Fl 4] [4]
.ret)
.skip)))
(Rn [
mv 49 5,bc 50 .add 49 1,mv 5 50] [2,3,5]))))))
(Sn [
Tr 4] [4]
.ret)))),
[.tmp 4]⟩
theorem x9_ok:ck x9 9:=by decide+kernel
def x10:XFunc:=⟨1,
(Sn [
bx 1 0,Fl 2] [1]
(Sn [
fa 3 0 1,ld 4 3 3,p1 5 27 4,mv 6 5,Gf 6 (fa 7 3 1),Gf 6 (ln 8 7),Gf 6 (le 9 8),Gf 6 (bc 10 .gtr 9 210),por 11 6 10,mv 12 11,Gf 12 (fa 13 4 1),
Gf 12 (ln 14 13),Gf 12 (le 15 14),Gf 12 (bc 16 .gtr 15 210),por 17 12 16,mv 2 17] [2]
.ret)),
[.tmp 2]⟩
theorem x10_ok:ck x10 10:=by decide+kernel
def x11:XFunc:=⟨1,
(Sn [
bx 1 0,Al 2 [.sl 3 true []]] [1,2]
(Sn [
⟨some 3,.mkrow 3 0 z4 [],none⟩,fa 4 0 1,ln 5 4,ap 6 3 3 5,Bu 7 [.sl 3 true []] [(0,1,(.t 6))],st 1 2 7] [2]
.ret)),
[.cell 2 (some 1)]⟩
theorem x11_ok:ck x11 11:=by decide+kernel
def x12:XFunc:=⟨1,
(Sn [
bx 1 0,Al 2 z6] [1,2]
(Ss [0,1,0,0,8,28,63,127] [
fa 3 0 1,ln 4 3,⟨some 5,.mkrow 3 0 z4 [],none⟩,fa 6 1 1,ln 7 6,ap 8 3 5 7,
Bu 9 z6 [(0,1,(.t 4)),(1,1,(.t 8))],st 2 2 9] [2]
.ret)),
[.cell 2 (some 2)]⟩
theorem x12_ok:ck x12 12:=by decide+kernel
def x13:XFunc:=⟨1,
(Sn [
bx 1 0,Al 2 z1] [1,2]
(Ss [0,1,3,0,0,16,63,0,0,256,1023,2047,4095] [
fa 3 0 1,ld 4 3 3,⟨some 5,.call .own 28 [(.t 4)],none⟩,⟨some 6,.mkrow 5 0 z2 [],none⟩,
fa 7 3 1,ln 8 7,ap 9 5 6 8,⟨some 10,.mkrow 1 0 [.int .i64 0] [],none⟩,fa 11 4 1,ln 12 11,ap 13 1 10 12,
Bu 14 z1 [(0,3,(.t 5)),(3,1,(.t 9)),(4,1,(.t 13))],st 5 2 14] [2]
.ret)),
[.cell 2 (some 5)]⟩
theorem x13_ok:ck x13 13:=by decide+kernel
def x14:XFunc:=⟨1,
(Sn [
bx 1 0,ic 2 0] [1]
(.seq
(Ss [0,1,3,0,8,31,0,64,255,0,512,2047,4095,8191,0] [
fa 12 0 1,ld 13 2 12,p1 14 29 13,fa 15 2 1,ld 16 1 15,p1 17 15 16,fa 18 3 1,ld 19 2 18,p1 20 30 19,fa 21 5 1,ld 22 5 21,p1 23 31 22,
⟨some 24,.mkrow 1 4 [.int .i64 0] [(0,(.t 14)),(1,(.t 17)),(2,(.t 20)),(3,(.t 23))],none⟩,le 25 24,ic 26 0] [1,24,25,26]
(.block 0
(.loop [(1,none),(24,none),(25,none),(26,none)]
(Sn [
bt 27 .lss 26 25] [1,24,25,26,27]
(.seq
(Cd 27
.skip
(.exit 0))
(.seq
(.block 1
(Sn [
ia 28 1 24 26,ln 29 28,mv 4 29] [1,4,24,25,26]
(Sn [
mv 30 4,bc 31 .neq 30 0] [1,24,25,26,31]
(Cd 31
(Sn [
ic 2 8] [2]
.ret)
.skip))))
(Rn [
bc 32 .add 26 1,mv 26 32] [1,24,25,26])))))))
(.seq
(Sn [
fa 33 5 1,fa 34 4 33,ln 35 34,le 36 35,bc 37 .neq 36 200,mv 38 37,Gf 38 (fa 39 5 1),Gf 38 (fa 40 3 39),Gf 38 (ln 41 40),Gf 38 (le 42 41),
Gf 38 (fa 43 10 1),Gf 38 (ln 44 43),Gf 38 (le 45 44),Gf 38 (bt 46 .neq 42 45),por 47 38 46] [1,47]
(Cd 47
(Sn [
ic 2 8] [2]
.ret)
.skip))
(Sn [
fa 48 10 1,ln 49 48,mv 5 49] [1,5]
(.seq
(Sn [
fa 50 3 1,fa 51 1 50,ln 52 51,le 53 52,ic 54 0] [1,5,52,53,54]
(.block 2
(.loop [(1,none),(5,none),(52,none),(53,none),(54,none)]
(Sn [
bt 55 .lss 54 53] [1,5,52,53,54,55]
(.seq
(Cd 55
.skip
(.exit 2))
(.seq
(.block 3
(Sn [
ia 56 3 52 54,ld 57 3 56,Al 7 z4,st 3 7 57] [1,5,7,52,53,54]
(Sn [
fa 59 2 1,ld 60 1 59,fa 61 1 7,ld 62 2 61,fa 63 0 1,ld 64 2 63,p3 65 32 60 62 64,mv 58 65,ex 66 0 58,ex 67 1 58,ex 68 2 58,
Al 8 z7,st 2 8 66,mv 9 67,mv 10 68] [1,5,7,8,9,10,52,53,54]
(.seq
(Sn [
mv 69 10,bc 70 .neq 69 0] [1,5,7,8,9,52,53,54,70]
(Cd 70
(Sn [
ic 2 8] [2]
.ret)
.skip))
(.seq
(Sn [
mv 71 9,No 72 71] [1,5,7,8,52,53,54,72]
(Cd 72
(.exit 3)
.skip))
(.seq
(Ss [0,1,3,7,15,31,63,127,15,271,1023,2047] [
mv 73 5,le 74 73,bc 75 .eql 74 0,mv 76 75,Gf 76 (mv 77 5),Gf 76 (⟨some 78,.iadr 3 (.t 77) (.c (.int .i64 0)),none⟩),Gf 76 (fa 79 0 78),
Gf 76 (ln 80 79),Gf 76 (fa 81 0 7),Gf 76 (ln 82 81),Gf 76 (bt 83 .neq 80 82),por 84 76 83] [1,5,7,8,52,53,54,84]
(Cd 84
(Sn [
ic 2 8] [2]
.ret)
.skip))
(Sn [
mv 85 5,⟨some 86,.iadr 3 (.t 85) (.c (.int .i64 0)),none⟩,fa 87 1 86,ld 88 2 87,Al 11 z7,st 2 11 88] [1,5,7,8,11,52,53,54]
(.seq
(Ss [0,1,3,7,15,31,63,127,255,511,1023,2047,511,4607,16383,32767,65535,131071,262143,524287,1048575,2097151,524287,4718591,13107199,524287,34078719,130547711,264765439,536870911,1073741823,524287,524287,4295491583,524287,32212779007,68719476735,137438953471] [
fa 89 0 11,ln 90 89,bc 91 .lss 90 0,mv 92 91,Gf 92 (fa 93 0 11),Gf 92 (ln 94 93),Gf 92 (bc 95 .geq 94 200),por 96 92 95,mv 97 96,Gf 97 (fa 98 5 1),
Gf 97 (fa 99 4 98),Gf 97 (ln 100 99),Gf 97 (fa 101 0 11),Gf 97 (ln 102 101),Gf 97 (ia 103 1 100 102),Gf 97 (ln 104 103),Gf 97 (bc 105 .lss 104 0),
por 106 97 105,mv 107 106,Gf 107 (fa 108 5 1),Gf 107 (fa 109 3 108),Gf 107 (ln 110 109),Gf 107 (fa 111 5 1),Gf 107 (fa 112 4 111),Gf 107 (ln 113 112),
Gf 107 (fa 114 0 11),Gf 107 (ln 115 114),Gf 107 (ia 116 1 113 115),Gf 107 (ln 117 116),Gf 107 (ia 118 5 110 117),Gf 107 (ld 119 5 118),
Gf 107 (ld 120 2 8),Gf 107 (fa 121 0 7),Gf 107 (ln 122 121),Gf 107 (ld 123 2 11),
Gf 107 (Bu 124 z2 [(0,2,(.t 120)),(2,1,(.t 122)),(3,2,(.t 123))]),
Gf 107 (⟨some 125,.eqc 5 true (.t 119) (.t 124),none⟩),por 126 107 125] [1,5,52,53,54,126]
(Cd 126
(Sn [
ic 2 8] [2]
.ret)
.skip))
(Rn [
mv 127 5,⟨some 128,.slc 3 (.t 127) (some (.c (.int .i64 1))) none none,none⟩,mv 5 128] [1,5,52,53,54])))))))))
(Rn [
bc 129 .add 54 1,mv 54 129] [1,5,52,53,54])))))))
(.seq
(Sn [
mv 130 5,le 131 130,bc 132 .gtr 131 0] [132]
(Cd 132
(Sn [
ic 2 8] [2]
.ret)
.skip))
(Sn [
ic 2 0] [2]
.ret))))))),
[.tmp 2]⟩
theorem x14_ok:ck x14 14:=by decide+kernel
def x15:XFunc:=⟨1,
(Sn [
bx 1 0,ic 2 0] [1]
(.seq
(Sn [
fa 8 0 1,ln 9 8,le 10 9,bc 11 .gtr 10 64] [1,11]
(Cd 11
(Sn [
ic 2 4] [2]
.ret)
.skip))
(.seq
(Sn [
fa 12 0 1,ln 13 12,le 14 13,ic 15 0] [1,13,14,15]
(.block 0
(.loop [(1,none),(13,none),(14,none),(15,none)]
(Sn [
bt 16 .lss 15 14] [1,13,14,15,16]
(.seq
(Cd 16
.skip
(.exit 0))
(.seq
(.block 1
(Sn [
ia 17 3 13 15,ld 18 3 17,Al 4 z4,st 3 4 18] [1,4,13,14,15]
(Sn [
ld 19 3 4,p1 20 33 19,mv 5 20] [1,5,13,14,15]
(Sn [
mv 21 5,bc 22 .neq 21 0] [1,5,13,14,15,22]
(Cd 22
(Sn [
mv 23 5,mv 2 23] [2]
.ret)
.skip)))))
(Rn [
bc 24 .add 15 1,mv 15 24] [1,13,14,15])))))))
(.seq
(Sn [
fa 25 0 1,ln 26 25,le 27 26,ic 28 0] [1,26,27,28]
(.block 2
(.loop [(1,none),(26,none),(27,none),(28,none)]
(Sn [
bt 29 .lss 28 27] [1,26,27,28,29]
(.seq
(Cd 29
.skip
(.exit 2))
(.seq
(.block 3
(Sn [
mv 30 28,ia 31 3 26 28,ld 32 3 31,Al 7 z4,mv 6 30,st 3 7 32] [1,6,7,26,27,28]
(Ss [0,1,3,7,15,7,39,127,255,511,7,1031,4095,8191] [
mv 33 6,bc 34 .gtr 33 0,mv 35 34,Gt 35 (fa 36 0 1),Gt 35 (ln 37 36),Gt 35 (mv 38 6),Gt 35 (bc 39 .sub 38 1),Gt 35 (ia 40 3 37 39),Gt 35 (fa 41 0 40),
Gt 35 (ln 42 41),Gt 35 (fa 43 0 7),Gt 35 (ln 44 43),Gt 35 (bt 45 .geq 42 44),pan 46 35 45] [1,26,27,28,46]
(Cd 46
(Sn [
ic 2 32] [2]
.ret)
.skip))))
(Rn [
bc 47 .add 28 1,mv 28 47] [1,26,27,28])))))))
(Sn [
ic 2 0] [2]
.ret))))),
[.tmp 2]⟩
theorem x15_ok:ck x15 15:=by decide+kernel
def x16:XFunc:=⟨2,
(Sn [
bx 3 1,Fl 4] [0,3]
(Sn [
mv 5 0,ld 6 2 3,p2 7 34 5 6,bc 8 .geq 7 0,mv 4 8] [4]
.ret)),
[.tmp 4]⟩
theorem x16_ok:ck x16 16:=by decide+kernel
def x17:XFunc:=⟨2,
(Sn [
bx 2 0,Al 4 z4,ic 5 0] [1,2,4]
(Sn [
ld 9 1 2,mv 10 1,p2 11 35 9 10,mv 8 11,ex 12 0 8,ex 13 1 8,mv 6 12,mv 7 13] [2,4,6,7]
(.seq
(Sn [
mv 14 7,bc 15 .neq 14 0] [2,4,6,7,15]
(Cd 15
(Sn [
Bu 16 z4 [],mv 17 7,st 3 4 16,mv 5 17] [4,5]
.ret)
.skip))
(Sn [
fa 18 0 2,ln 19 18,mv 20 6,ia 21 3 19 20,ld 22 3 21,st 3 4 22,ic 5 0] [4,5]
.ret)))),
[.cell 4 (some 3),.tmp 5]⟩
theorem x17_ok:ck x17 17:=by decide+kernel
def x18:XFunc:=⟨3,
(Sn [
bx 3 0,bx 4 1,
Al 6 z0,
ic 7 0] [2,3,4,6]
(.seq
(Sn [
fa 13 3 3,fa 14 1 13,ln 15 14,le 16 15,ic 17 0] [2,3,4,6,15,16,17]
(.block 0
(.loop [(2,none),(3,none),(4,none),(6,none),(15,none),(16,none),(17,none)]
(Sn [
bt 18 .lss 17 16] [2,3,4,6,15,16,17,18]
(.seq
(Cd 18
.skip
(.exit 0))
(.seq
(.block 1
(Sn [
ia 19 3 15 17,ld 20 3 19,Al 9 z4,st 3 9 20] [2,3,4,6,9,15,16,17]
(Sn [
mv 21 2,fa 22 1 9,ld 23 2 22,p2 24 16 21 23,No 25 24] [2,3,4,6,9,15,16,17,25]
(Cd 25
(Rn [
ld 27 11 3,fa 28 0 9,ln 29 28,p2 30 36 27 29,mv 26 30,ex 31 0 26,ex 32 1 26,st 11 3 31] [2,3,4,6,15,16,17])
.skip))))
(Rn [
bc 33 .add 17 1,mv 17 33] [2,3,4,6,15,16,17])))))))
(Sn [
ic 10 0] [2,3,4,6]
(.seq
(Sn [
fa 34 2 3,fa 35 0 34,ln 36 35,fa 37 0 4,ln 38 37,p2 39 37 36 38,No 40 39] [2,3,4,6,40]
(Cd 40
(Sn [
ld 42 11 3,ld 43 1 4,p2 44 38 42 43,mv 41 44,ex 45 0 41,ex 46 1 41,st 11 3 45,mv 10 46] [2,3,6,10]
(Sn [
mv 47 10,bc 48 .neq 47 0] [2,3,6,10,48]
(Cd 48
(Sn [
Bu 49 z0 [],
mv 50 10,st 11 6 49,mv 7 50] [6,7]
.ret)
.skip)))
.skip))
(.seq
(Sn [
mv 51 2,le 52 51,ic 53 0] [3,6,51,52,53]
(.block 2
(.loop [(3,none),(6,none),(51,none),(52,none),(53,none)]
(Sn [
bt 54 .lss 53 52] [3,6,51,52,53,54]
(.seq
(Cd 54
.skip
(.exit 2))
(.seq
(.block 3
(Sn [
ia 55 2 51 53,ld 56 2 55,Al 12 z7,st 2 12 56] [3,6,12,51,52,53]
(.seq
(Sn [
fa 57 3 3,fa 58 1 57,ln 59 58,⟨some 60,.mkf 40 [] [(.t 12)],none⟩,p2 61 39 59 60] [3,6,12,51,52,53,61]
(Cd 61
(.exit 3)
.skip))
(Sn [
ld 63 11 3,ld 64 2 12,p2 65 41 63 64,mv 62 65,ex 66 0 62,ex 67 1 62,ex 68 2 62,st 11 3 66,mv 10 68] [3,6,10,51,52,53]
(Sn [
mv 69 10,bc 70 .neq 69 0] [3,6,10,51,52,53,70]
(Cd 70
(Sn [
Bu 71 z0 [],
mv 72 10,st 11 6 71,mv 7 72] [6,7]
.ret)
.skip))))))
(Rn [
bc 73 .add 53 1,mv 53 73] [3,6,51,52,53])))))))
(Sn [
ld 74 11 3,st 11 6 74,ic 7 0] [6,7]
.ret)))))),
[.cell 6 (some 11),.tmp 7]⟩
theorem x18_ok:ck x18 18:=by decide+kernel
def x19:XFunc:=⟨1,
(Sn [
bx 1 0,
Al 2 z0] [1,2]
(Sn [
fa 4 2 1,fa 5 0 4,ln 6 5,p1 7 42 6,fa 8 2 1,fa 9 0 8,st 1 9 7] [1,2]
(Sn [
fa 10 3 1,fa 11 1 10,ln 12 11,p1 13 43 12,fa 14 3 1,fa 15 1 14,st 1 15 13] [1,2]
(Sn [
fa 16 10 1,ln 17 16,p1 18 44 17,fa 19 10 1,st 1 19 18] [1,2]
(Sn [
fa 20 5 1,mv 3 20] [1,2,3]
(Ss [0,0,0,4,12,28,60,0,128,384,896,2044,4093,8189,16381,32767,65535,131071] [
mv 21 3,mv 22 3,mv 23 3,⟨some 24,.nilc (.t 23),none⟩,fa 25 3 24,ln 26 25,p1 27 45 26,mv 28 3,⟨some 29,.nilc (.t 28),none⟩,fa 30 4 29,ln 31 30,
p1 32 46 31,⟨some 33,.nilc (.t 21),none⟩,fa 34 3 33,st 1 34 27,⟨some 35,.nilc (.t 22),none⟩,fa 36 4 35,st 1 36 32] [1,2,3]
(Ss [0,0,0,0,8,24,56,120,248,0,512,1536,3584,7680,16376,0,32768,98304,229376,491520,1048568,2097145,4194297,8388601,16777209,33554427,67108859,134217723,268435451,536870911,1073741823,2147483647,4294967295] [
mv 37 3,mv 38 3,mv 39 3,mv 40 3,⟨some 41,.nilc (.t 40),none⟩,fa 42 0 41,fa 43 0 42,ln 44 43,p1 45 46 44,mv 46 3,⟨some 47,.nilc (.t 46),none⟩,
fa 48 0 47,fa 49 1 48,ln 50 49,p1 51 47 50,mv 52 3,⟨some 53,.nilc (.t 52),none⟩,fa 54 0 53,fa 55 2 54,ln 56 55,p1 57 46 56,
⟨some 58,.nilc (.t 37),none⟩,fa 59 0 58,fa 60 0 59,st 1 60 45,⟨some 61,.nilc (.t 38),none⟩,fa 62 0 61,fa 63 1 62,st 1 63 51,
⟨some 64,.nilc (.t 39),none⟩,fa 65 0 64,fa 66 2 65,st 1 66 57] [1,2]
(Sn [
ld 67 11 1,st 11 2 67] [2]
.ret)))))))),
[.cell 2 (some 11)]⟩
theorem x19_ok:ck x19 19:=by decide+kernel
def x20:XFunc:=⟨1,
(Sn [
bx 1 0,ic 2 0] [1]
(.seq
(Sn [
fa 10 0 1,ld 11 2 10,p1 12 48 11,bc 13 .neq 12 0,mv 14 13,Gf 14 (fa 15 2 1),Gf 14 (ld 16 1 15),Gf 14 (p1 17 21 16),Gf 14 (bc 18 .neq 17 0),
por 19 14 18,mv 20 19,Gf 20 (fa 21 3 1),Gf 20 (ld 22 2 21),Gf 20 (p1 23 49 22),Gf 20 (bc 24 .neq 23 0),por 25 20 24,mv 26 25,Gf 26 (fa 27 3 1),
Gf 26 (ld 28 2 27),Gf 26 (fa 29 2 1),Gf 26 (ld 30 1 29),Gf 26 (p2 31 50 28 30),Gf 26 (No 32 31),por 33 26 32,mv 34 33,Gf 34 (fa 35 5 1),
Gf 34 (ld 36 5 35),Gf 34 (p1 37 51 36),Gf 34 (bc 38 .neq 37 0),por 39 34 38,mv 40 39,Gf 40 (fa 41 5 1),Gf 40 (fa 42 4 41),Gf 40 (ln 43 42),
Gf 40 (le 44 43),Gf 40 (bc 45 .neq 44 200),por 46 40 45,mv 47 46,Gf 47 (fa 48 5 1),Gf 47 (fa 49 3 48),Gf 47 (ln 50 49),Gf 47 (le 51 50),
Gf 47 (fa 52 10 1),Gf 47 (ln 53 52),Gf 47 (le 54 53),Gf 47 (bt 55 .neq 51 54),por 56 47 55] [1,56]
(Cd 56
(Sn [
ic 2 8] [2]
.ret)
.skip))
(Sn [
ic 3 0] [1,3]
(.seq
(Sn [
ic 4 0] [1,3,4]
(.block 0
(.loop [(1,none),(3,none),(4,none)]
(.seq
(Sn [
mv 57 4,fa 58 3 1,fa 59 1 58,ln 60 59,le 61 60,bt 62 .lss 57 61] [1,3,4,62]
(Cd 62
.skip
(.exit 0)))
(.seq
(.block 1
(Sn [
fa 65 3 1,fa 66 1 65,ln 67 66,mv 68 4,ia 69 3 67 68,ld 70 3 69,Al 5 z4,st 3 5 70] [1,3,4,5]
(Sn [
fa 72 2 1,ld 73 1 72,fa 74 1 5,ld 75 2 74,fa 76 0 1,ld 77 2 76,p3 78 52 73 75 77,mv 71 78,ex 79 0 71,ex 80 1 71,Al 6 z7,
st 2 6 79,mv 7 80] [1,3,4,5,6,7]
(.seq
(Sn [
mv 81 7,No 82 81] [1,3,4,5,6,82]
(Cd 82
(.exit 1)
.skip))
(.seq
(Ss [0,0,2,6,15,31,63,127,63,511,1023,2047,63,4159,16383,32767] [
mv 83 3,fa 84 10 1,ln 85 84,le 86 85,bt 87 .geq 83 86,mv 88 87,Gf 88 (fa 89 10 1),Gf 88 (ln 90 89),Gf 88 (mv 91 3),Gf 88 (ia 92 3 90 91),
Gf 88 (fa 93 0 92),Gf 88 (ln 94 93),Gf 88 (fa 95 0 5),Gf 88 (ln 96 95),Gf 88 (bt 97 .neq 94 96),por 98 88 97] [1,3,4,5,6,98]
(Cd 98
(Sn [
ic 2 8] [2]
.ret)
.skip))
(Ss [0,1,0,4,0,28,60,124,255,511,1023,1023,0,6143,16383] [
fa 100 5 1,ld 101 5 100,fa 102 10 1,ln 103 102,mv 104 3,ia 105 3 103 104,fa 106 1 105,ld 107 2 106,p2 108 53 101 107,mv 99 108,ex 109 0 99,
ex 110 1 99,Al 8 z2,st 5 8 109,mv 9 110] [1,3,4,5,6,8,9]
(.seq
(Sn [
mv 111 9,bc 112 .neq 111 0,mv 113 112,Gf 113 (fa 114 2 8),Gf 113 (ln 115 114),Gf 113 (fa 116 0 5),Gf 113 (ln 117 116),Gf 113 (bt 118 .neq 115 117),
por 119 113 118,mv 120 119,Gf 120 (fa 121 0 8),Gf 120 (ld 122 2 121),Gf 120 (ld 123 2 6),Gf 120 (⟨some 124,.eqc 2 true (.t 122) (.t 123),none⟩),
por 125 120 124] [1,3,4,125]
(Cd 125
(Sn [
ic 2 8] [2]
.ret)
.skip))
(Rn [
mv 126 3,bc 127 .add 126 1,mv 3 127] [1,3,4]))))))))
(Rn [
mv 63 4,bc 64 .add 63 1,mv 4 64] [1,3,4]))))))
(.seq
(Sn [
mv 128 3,fa 129 10 1,ln 130 129,le 131 130,bt 132 .neq 128 131] [132]
(Cd 132
(Sn [
ic 2 8] [2]
.ret)
.skip))
(Sn [
ic 2 0] [2]
.ret)))))),
[.tmp 2]⟩
theorem x20_ok:ck x20 20:=by decide+kernel
def x21:XFunc:=⟨1,
(Sn [
bx 1 0,ic 2 0] [1]
(.seq
(Sn [
fa 5 0 1,ln 6 5,le 7 6,bc 8 .gtr 7 64] [1,8]
(Cd 8
(Sn [
ic 2 4] [2]
.ret)
.skip))
(.seq
(Sn [
ic 3 0] [1,3]
(.block 0
(.loop [(1,none),(3,none)]
(.seq
(Sn [
mv 9 3,fa 10 0 1,ln 11 10,le 12 11,bt 13 .lss 9 12] [1,3,13]
(Cd 13
.skip
(.exit 0)))
(.seq
(.block 1
(Sn [
fa 16 0 1,ln 17 16,mv 18 3,ia 19 3 17 18,ld 20 3 19,p1 21 54 20,bc 22 .neq 21 0] [1,3,22]
(Cd 22
(Sn [
ic 2 8] [2]
.ret)
.skip)))
(Rn [
mv 14 3,bc 15 .add 14 1,mv 3 15] [1,3]))))))
(.seq
(Sn [
ic 4 1] [1,4]
(.block 2
(.loop [(1,none),(4,none)]
(.seq
(Sn [
mv 23 4,fa 24 0 1,ln 25 24,le 26 25,bt 27 .lss 23 26] [1,4,27]
(Cd 27
.skip
(.exit 2)))
(.seq
(.block 3
(Ss [0,1,0,4,15,31,63,0,128,0,896,1920,3968,8191] [
fa 30 0 1,ln 31 30,mv 32 4,bc 33 .sub 32 1,ia 34 3 31 33,fa 35 0 34,ln 36 35,fa 37 0 1,ln 38 37,mv 39 4,ia 40 3 38 39,fa 41 0 40,ln 42 41,
bt 43 .geq 36 42] [1,4,43]
(Cd 43
(Sn [
ic 2 32] [2]
.ret)
.skip)))
(Rn [
mv 28 4,bc 29 .add 28 1,mv 4 29] [1,4]))))))
(Sn [
ic 2 0] [2]
.ret))))),
[.tmp 2]⟩
theorem x21_ok:ck x21 21:=by decide+kernel
def x22:XFunc:=⟨2,
(Sn [
bx 2 0,ic 4 0] [1,2]
(.seq
(Sn [
ic 5 0] [1,2,5]
(.block 0
(.loop [(1,none),(2,none),(5,none)]
(.seq
(Sn [
mv 8 5,mv 9 1,le 10 9,bt 11 .lss 8 10] [1,2,5,11]
(Cd 11
.skip
(.exit 0)))
(.seq
(.block 1
(Sn [
mv 14 1,mv 15 5,ia 16 2 14 15,ld 17 2 16,p1 18 55 17,No 19 18] [1,2,5,19]
(Cd 19
(Sn [
ic 4 8] [4]
.ret)
.skip)))
(Rn [
mv 12 5,bc 13 .add 12 1,mv 5 13] [1,2,5]))))))
(.seq
(Sn [
ic 6 0] [1,2,6]
(.block 2
(.loop [(1,none),(2,none),(6,none)]
(.seq
(Sn [
mv 20 6,mv 21 1,le 22 21,bt 23 .lss 20 22] [1,2,6,23]
(Cd 23
.skip
(.exit 2)))
(.seq
(.block 3
(Ss [0,0,3,0,0,24,56,127] [
mv 26 1,mv 27 6,⟨some 28,.slc 2 (.t 26) none (some (.t 27)) none,none⟩,mv 29 1,mv 30 6,ia 31 2 29 30,ld 32 2 31,p2 33 56 28 32] [1,2,6,33]
(Cd 33
(Sn [
ic 4 14] [4]
.ret)
.skip)))
(Rn [
mv 24 6,bc 25 .add 24 1,mv 6 25] [1,2,6]))))))
(.seq
(Sn [
ic 7 0] [1,2,7]
(.block 4
(.loop [(1,none),(2,none),(7,none)]
(.seq
(Sn [
mv 34 7,mv 35 1,le 36 35,bt 37 .lss 34 36] [1,2,7,37]
(Cd 37
.skip
(.exit 4)))
(.seq
(.block 5
(Ss [0,0,0,6,14,30,63,127,255,511,511,511,3583,7679,15871,32767,65535,131071] [
ld 40 1 2,mv 41 1,mv 42 7,ia 43 2 41 42,fa 44 0 43,ln 45 44,p2 46 57 40 45,bc 47 .lss 46 0,mv 48 47,Gf 48 (ld 49 1 2),Gf 48 (mv 50 1),
Gf 48 (mv 51 7),Gf 48 (ia 52 2 50 51),Gf 48 (fa 53 1 52),Gf 48 (ln 54 53),Gf 48 (p2 55 57 49 54),Gf 48 (bc 56 .lss 55 0),por 57 48 56] [1,2,7,57]
(Cd 57
(Sn [
ic 4 6] [4]
.ret)
.skip)))
(Rn [
mv 38 7,bc 39 .add 38 1,mv 7 39] [1,2,7]))))))
(Sn [
ic 4 0] [4]
.ret))))),
[.tmp 4]⟩
theorem x22_ok:ck x22 22:=by decide+kernel
def x23:XFunc:=⟨3,
(Sn [
bx 3 0,bx 4 1,
Al 6 z0,
ic 7 0] [2,3,4,6]
(Sn [
ld 16 11 3,p1 17 6 16,
Al 8 z0,
st 11 8 17] [2,3,4,6,8]
(.seq
(Sn [
ic 9 0] [2,3,4,6,8,9]
(.block 0
(.loop [(2,none),(3,none),(4,none),(6,none),(8,none),(9,none)]
(.seq
(Sn [
mv 18 9,fa 19 3 3,fa 20 1 19,ln 21 20,le 22 21,bt 23 .lss 18 22] [2,3,4,6,8,9,23]
(Cd 23
.skip
(.exit 0)))
(.seq
(.block 1
(Sn [
mv 26 2,fa 27 3 3,fa 28 1 27,ln 29 28,mv 30 9,ia 31 3 29 30,fa 32 1 31,ld 33 2 32,p2 34 56 26 33,No 35 34] [2,3,4,6,8,9,35]
(Cd 35
(Rs [0,0,2,6,0,30,62,126,255,511] [
ld 36 11 8,fa 37 3 3,fa 38 1 37,ln 39 38,mv 40 9,ia 41 3 39 40,fa 42 0 41,ln 43 42,p2 44 58 36 43,st 11 8 44] [2,3,4,6,8,9])
.skip)))
(Rn [
mv 24 9,bc 25 .add 24 1,mv 9 25] [2,3,4,6,8,9]))))))
(.seq
(Sn [
fa 45 2 8,ld 46 1 45,ld 47 1 4,p2 48 24 46 47,No 49 48] [2,4,6,8,49]
(Cd 49
(Sn [
ld 51 11 8,ld 52 1 4,p2 53 59 51 52,mv 50 53,ex 54 0 50,ex 55 1 50,
Al 10 z0,
st 11 10 54,mv 11 55] [2,6,8,10,11]
(.seq
(Sn [
mv 56 11,bc 57 .neq 56 0] [2,6,8,10,11,57]
(Cd 57
(Sn [
Bu 58 z0 [],
mv 59 11,st 11 6 58,mv 7 59] [6,7]
.ret)
.skip))
(Rn [
ld 60 11 10,st 11 8 60] [2,6,8])))
.skip))
(.seq
(Sn [
ic 12 0] [2,6,8,12]
(.block 2
(.loop [(2,none),(6,none),(8,none),(12,none)]
(.seq
(Sn [
mv 61 12,mv 62 2,le 63 62,bt 64 .lss 61 63] [2,6,8,12,64]
(Cd 64
.skip
(.exit 2)))
(.seq
(.block 3
(.seq
(Ss [0,1,0,0,12,28,63] [
fa 67 3 8,ld 68 2 67,mv 69 2,mv 70 12,ia 71 2 69 70,ld 72 2 71,p2 73 60 68 72] [2,6,8,12,73]
(Cd 73
(.exit 3)
.skip))
(Ss [0,0,0,6,14,31,63,127,127,127,0,1279,3583,8191] [
ld 75 11 8,mv 76 2,mv 77 12,ia 78 2 76 77,ld 79 2 78,p2 80 61 75 79,mv 74 80,ex 81 0 74,ex 82 1 74,ex 83 2 74,
Al 13 z0,
st 11 13 81,mv 14 82,mv 15 83] [2,6,8,12,13,15]
(.seq
(Sn [
mv 84 15,bc 85 .neq 84 0] [2,6,8,12,13,15,85]
(Cd 85
(Sn [
Bu 86 z0 [],
mv 87 15,st 11 6 86,mv 7 87] [6,7]
.ret)
.skip))
(Rn [
ld 88 11 13,st 11 8 88] [2,6,8,12])))))
(Rn [
mv 65 12,bc 66 .add 65 1,mv 12 66] [2,6,8,12]))))))
(Sn [
ld 89 11 8,st 11 6 89,ic 7 0] [6,7]
.ret)))))),
[.cell 6 (some 11),.tmp 7]⟩
theorem x23_ok:ck x23 23:=by decide+kernel
def x24:XFunc:=⟨2,
(Sn [
bx 2 0,bx 3 1,Fl 4] [2,3]
(.seq
(Sn [
fa 6 0 2,ln 7 6,le 8 7,fa 9 0 3,ln 10 9,le 11 10,bt 12 .neq 8 11] [2,3,12]
(Cd 12
(Sn [
Fl 4] [4]
.ret)
.skip))
(.seq
(Sn [
ic 5 0] [2,3,5]
(.block 0
(.loop [(2,none),(3,none),(5,none)]
(.seq
(Sn [
mv 13 5,fa 14 0 2,ln 15 14,le 16 15,bt 17 .lss 13 16] [2,3,5,17]
(Cd 17
.skip
(.exit 0)))
(.seq
(.block 1
(Ss [0,1,0,7,15,0,32,0,224,480,1023] [
fa 20 0 2,ln 21 20,mv 22 5,ia 23 3 21 22,ld 24 3 23,fa 25 0 3,ln 26 25,mv 27 5,ia 28 3 26 27,ld 29 3 28,
⟨some 30,.eqc 3 true (.t 24) (.t 29),none⟩] [2,3,5,30]
(Cd 30
(Sn [
Fl 4] [4]
.ret)
.skip)))
(Rn [
mv 18 5,bc 19 .add 18 1,mv 5 19] [2,3,5]))))))
(Sn [
Tr 4] [4]
.ret)))),
[.tmp 4]⟩
theorem x24_ok:ck x24 24:=by decide+kernel
def x25:XFunc:=⟨2,
(Sn [
bx 2 0,bx 3 1,Fl 4] [2,3]
(.seq
(Sn [
fa 6 0 2,ln 7 6,fa 8 0 3,ln 9 8,bt 10 .neq 7 9,mv 11 10,Gf 11 (fa 12 1 2),Gf 11 (ln 13 12),Gf 11 (le 14 13),Gf 11 (fa 15 1 3),Gf 11 (ln 16 15),
Gf 11 (le 17 16),Gf 11 (bt 18 .neq 14 17),por 19 11 18] [2,3,19]
(Cd 19
(Sn [
Fl 4] [4]
.ret)
.skip))
(.seq
(Sn [
ic 5 0] [2,3,5]
(.block 0
(.loop [(2,none),(3,none),(5,none)]
(.seq
(Sn [
mv 20 5,fa 21 1 2,ln 22 21,le 23 22,bt 24 .lss 20 23] [2,3,5,24]
(Cd 24
.skip
(.exit 0)))
(.seq
(.block 1
(Ss [0,1,0,7,15,0,32,0,224,480,1023] [
fa 27 1 2,ln 28 27,mv 29 5,ia 30 3 28 29,ld 31 3 30,fa 32 1 3,ln 33 32,mv 34 5,ia 35 3 33 34,ld 36 3 35,
⟨some 37,.eqc 3 true (.t 31) (.t 36),none⟩] [2,3,5,37]
(Cd 37
(Sn [
Fl 4] [4]
.ret)
.skip)))
(Rn [
mv 25 5,bc 26 .add 25 1,mv 5 26] [2,3,5]))))))
(Sn [
Tr 4] [4]
.ret)))),
[.tmp 4]⟩
theorem x25_ok:ck x25 25:=by decide+kernel
def x26:XFunc:=⟨2,
(Sn [
bx 2 0,bx 3 1,Fl 4] [2,3]
(.seq
(Sn [
fa 6 0 2,ld 7 3 6,fa 8 0 3,ld 9 3 8,p2 10 62 7 9,No 11 10,mv 12 11,Gf 12 (fa 13 4 2),Gf 12 (ln 14 13),Gf 12 (fa 15 4 3),Gf 12 (ln 16 15),
Gf 12 (p2 17 63 14 16),Gf 12 (No 18 17),por 19 12 18,mv 20 19,Gf 20 (fa 21 3 2),Gf 20 (ln 22 21),Gf 20 (le 23 22),Gf 20 (fa 24 3 3),Gf 20 (ln 25 24),
Gf 20 (le 26 25),Gf 20 (bt 27 .neq 23 26),por 28 20 27] [2,3,28]
(Cd 28
(Sn [
Fl 4] [4]
.ret)
.skip))
(.seq
(Sn [
ic 5 0] [2,3,5]
(.block 0
(.loop [(2,none),(3,none),(5,none)]
(.seq
(Sn [
mv 29 5,fa 30 3 2,ln 31 30,le 32 31,bt 33 .lss 29 32] [2,3,5,33]
(Cd 33
.skip
(.exit 0)))
(.seq
(.block 1
(Ss [0,1,0,7,15,0,32,0,224,480,1023] [
fa 36 3 2,ln 37 36,mv 38 5,ia 39 5 37 38,ld 40 5 39,fa 41 3 3,ln 42 41,mv 43 5,ia 44 5 42 43,ld 45 5 44,
⟨some 46,.eqc 5 true (.t 40) (.t 45),none⟩] [2,3,5,46]
(Cd 46
(Sn [
Fl 4] [4]
.ret)
.skip)))
(Rn [
mv 34 5,bc 35 .add 34 1,mv 5 35] [2,3,5]))))))
(Sn [
Tr 4] [4]
.ret)))),
[.tmp 4]⟩
theorem x26_ok:ck x26 26:=by decide+kernel
def x27:XFunc:=⟨1,
(Sn [
bx 1 0,Fl 2] [1]
(Sn [
fa 3 0 1,ln 4 3,le 5 4,bc 6 .gtr 5 210,mv 7 6,Gf 7 (fa 8 1 1),Gf 7 (ln 9 8),Gf 7 (le 10 9),Gf 7 (bc 11 .gtr 10 210),por 12 7 11,mv 13 12,
Gf 13 (fa 14 2 1),Gf 13 (ln 15 14),Gf 13 (le 16 15),Gf 13 (bc 17 .gtr 16 210),por 18 13 17,mv 2 18] [2]
.ret)),
[.tmp 2]⟩
theorem x27_ok:ck x27 27:=by decide+kernel
def x28:XFunc:=⟨1,
(Sn [
bx 1 0,Al 2 z3] [1,2]
(Ss [0,0,2,7,0,0,32,127,0,0,512,2047,4095,8191] [
⟨some 3,.mkrow 1 0 [.int .i64 0] [],none⟩,fa 4 0 1,ln 5 4,ap 6 1 3 5,⟨some 7,.mkrow 1 0 [.bool false] [],none⟩,fa 8 1 1,ln 9 8,ap 10 1 7 9,
⟨some 11,.mkrow 1 0 [.int .i64 0] [],none⟩,fa 12 2 1,ln 13 12,ap 14 1 11 13,
Bu 15 z3 [(0,1,(.t 6)),(1,1,(.t 10)),(2,1,(.t 14))],st 3 2 15] [2]
.ret)),
[.cell 2 (some 3)]⟩
theorem x28_ok:ck x28 28:=by decide+kernel
def x29:XFunc:=⟨1,
(Sn [
bx 1 0,ic 2 0] [1]
(.seq
(Ss [0,1,3,7,15,31,63,127,255,511,1023,2047,511,4607,12799,32767,65535,131071] [
fa 3 1 1,ln 4 3,bc 5 .lss 4 1,mv 6 5,Gf 6 (fa 7 0 1),Gf 6 (ln 8 7),Gf 6 (bc 9 .eql 8 (-9223372036854775808)),por 10 6 9,mv 11 10,Gf 11 (fa 12 1 1),
Gf 11 (ln 13 12),Gf 11 (⟨some 14,.conv .u64 (.t 13),none⟩),Gf 11 (fa 15 0 1),Gf 11 (ln 16 15),Gf 11 (p1 17 65 16),Gf 11 (p2 18 64 14 17),
Gf 11 (⟨some 19,.bin .gtr (.t 18) (.c (.int .u64 1)),none⟩),por 20 11 19] [20]
(Cd 20
(Sn [
ic 2 8] [2]
.ret)
.skip))
(Sn [
ic 2 0] [2]
.ret))),
[.tmp 2]⟩
theorem x29_ok:ck x29 29:=by decide+kernel
def x30:XFunc:=⟨1,
(Sn [
bx 1 0,ic 2 0] [1]
(.seq
(Sn [
fa 7 1 1,ln 8 7,le 9 8,bc 10 .gtr 9 200,mv 11 10,Gf 11 (fa 12 0 1),Gf 11 (ln 13 12),Gf 11 (bc 14 .lss 13 0),por 15 11 14,mv 16 15,Gf 16 (fa 17 0 1),
Gf 16 (ln 18 17),Gf 16 (bc 19 .gtr 18 1000000),por 20 16 19] [1,20]
(Cd 20
(Sn [
ic 2 8] [2]
.ret)
.skip))
(Sn [
⟨some 21,.mkm,none⟩,mv 3 21,ic 4 (-1)] [1,3,4]
(.seq
(Sn [
fa 22 1 1,ln 23 22,le 24 23,ic 25 0] [1,3,4,23,24,25]
(.block 0
(.loop [(1,none),(3,none),(4,none),(23,none),(24,none),(25,none)]
(Sn [
bt 26 .lss 25 24] [1,3,4,23,24,25,26]
(.seq
(Cd 26
.skip
(.exit 0))
(.seq
(.block 1
(Sn [
ia 27 3 23 25,ld 28 3 27,Al 6 z4,st 3 6 28] [1,3,4,6,23,24,25]
(.seq
(Sn [
fa 29 1 6,ld 30 2 29,p1 31 66 30,No 32 31,mv 33 32,Gf 33 (mv 34 3),Gf 33 (fa 35 1 6),Gf 33 (ld 36 2 35),
Gf 33 (⟨some 37,.lookup (some 2) (.bool false) false (.t 34) (.t 36),none⟩),por 38 33 37,mv 39 38,Gf 39 (fa 40 0 6),Gf 39 (ln 41 40),Gf 39 (mv 42 4),
Gf 39 (bt 43 .leq 41 42),por 44 39 43,mv 45 44,Gf 45 (fa 46 0 6),Gf 45 (ln 47 46),Gf 45 (fa 48 0 1),Gf 45 (ln 49 48),Gf 45 (bt 50 .geq 47 49),
por 51 45 50] [1,3,6,23,24,25,51]
(Cd 51
(Sn [
ic 2 8] [2]
.ret)
.skip))
(Rs [0,0,2,0,8,7,63] [
mv 52 3,fa 53 1 6,ld 54 2 53,fa 55 0 6,ln 56 55,⟨none,.mapu (some 2) (.t 52) (.t 54) (.c (.bool true)),none⟩,mv 4 56] [1,3,4,23,24,25]))))
(Rn [
bc 57 .add 25 1,mv 25 57] [1,3,4,23,24,25])))))))
(Sn [
ic 2 0] [2]
.ret))))),
[.tmp 2]⟩
theorem x30_ok:ck x30 30:=by decide+kernel
def x31:XFunc:=⟨1,
(Sn [
bx 1 0,ic 2 0] [1]
(.seq
(Sn [
fa 8 0 1,ld 9 3 8,p1 10 67 9,bc 11 .neq 10 0,mv 12 11,Gf 12 (fa 13 4 1),Gf 12 (ln 14 13),Gf 12 (le 15 14),Gf 12 (fa 16 0 1),Gf 12 (fa 17 1 16),
Gf 12 (ln 18 17),Gf 12 (le 19 18),Gf 12 (bt 20 .neq 15 19),por 21 12 20,mv 22 21,Gf 22 (fa 23 3 1),Gf 22 (ln 24 23),Gf 22 (le 25 24),Gf 22 (fa 26 0 1),
Gf 22 (fa 27 1 26),Gf 22 (ln 28 27),Gf 22 (le 29 28),Gf 22 (fa 30 0 1),Gf 22 (fa 31 2 30),Gf 22 (ln 32 31),Gf 22 (le 33 32),Gf 22 (bt 34 .sub 29 33),
Gf 22 (bt 35 .neq 25 34),por 36 22 35] [1,36]
(Cd 36
(Sn [
ic 2 8] [2]
.ret)
.skip))
(.seq
(Sn [
fa 37 4 1,ln 38 37,le 39 38,ic 40 0] [1,38,39,40]
(.block 0
(.loop [(1,none),(38,none),(39,none),(40,none)]
(Sn [
bt 41 .lss 40 39] [1,38,39,40,41]
(.seq
(Cd 41
.skip
(.exit 0))
(.seq
(.block 1
(Sn [
mv 42 40,ia 43 1 38 40,ln 44 43,mv 3 42,mv 4 44] [1,3,4,38,39,40]
(.seq
(Sn [
fa 45 0 1,fa 46 1 45,ln 47 46,mv 48 3,ia 49 1 47 48,ln 50 49,No 51 50] [1,3,4,38,39,40,51]
(Cd 51
(.seq
(Sn [
mv 52 4,bc 53 .neq 52 (-1)] [1,38,39,40,53]
(Cd 53
(Sn [
ic 2 8] [2]
.ret)
.skip))
(.exit 1))
.skip))
(Ss [0,1,3,7,7,23,55,127,255,511,1023,2047,1023,8191,16383,32767,1023,1023,132095,394239,1023,1967103,4064255,8324095,16777215,33554431] [
mv 54 4,bc 55 .lss 54 0,mv 56 55,Gf 56 (mv 57 4),Gf 56 (fa 58 3 1),Gf 56 (ln 59 58),Gf 56 (le 60 59),Gf 56 (bt 61 .geq 57 60),por 62 56 61,mv 63 62,
Gf 63 (fa 64 3 1),Gf 63 (ln 65 64),Gf 63 (mv 66 4),Gf 63 (ia 67 5 65 66),Gf 63 (fa 68 3 67),Gf 63 (ld 69 2 68),Gf 63 (mv 70 3),Gf 63 (fa 71 0 1),
Gf 63 (fa 72 0 71),Gf 63 (ln 73 72),Gf 63 (mv 74 3),Gf 63 (ia 75 1 73 74),Gf 63 (ln 76 75),
Gf 63 (Bu 77 z7 [(0,1,(.t 70)),(1,1,(.t 76))]),Gf 63 (⟨some 78,.eqc 2 true (.t 69) (.t 77),none⟩),
por 79 63 78] [1,38,39,40,79]
(Cd 79
(Sn [
ic 2 8] [2]
.ret)
.skip)))))
(Rn [
bc 80 .add 40 1,mv 40 80] [1,38,39,40])))))))
(Sn [
⟨some 81,.mkm,none⟩,mv 5 81] [1,5]
(.seq
(Sn [
fa 82 3 1,ln 83 82,le 84 83,ic 85 0] [1,5,83,84,85]
(.block 2
(.loop [(1,none),(5,none),(83,none),(84,none),(85,none)]
(Sn [
bt 86 .lss 85 84] [1,5,83,84,85,86]
(.seq
(Cd 86
.skip
(.exit 2))
(.seq
(.block 3
(Sn [
mv 87 85,ia 88 5 83 85,ld 89 5 88,Al 7 z2,mv 6 87,st 5 7 89] [1,5,6,7,83,84,85]
(.seq
(Sn [
fa 90 0 7,ld 91 2 90,p1 92 29 91,bc 93 .neq 92 0,mv 94 93,Gf 94 (fa 95 2 7),Gf 94 (ln 96 95),Gf 94 (bc 97 .lss 96 0),por 98 94 97,mv 99 98,
Gf 99 (fa 100 2 7),Gf 99 (ln 101 100),Gf 99 (bc 102 .gtr 101 1000000),por 103 99 102,mv 104 103,Gf 104 (mv 105 5),Gf 104 (fa 106 2 7),
Gf 104 (ln 107 106),Gf 104 (⟨some 108,.lookup none (.bool false) false (.t 105) (.t 107),none⟩),por 109 104 108] [1,5,6,7,83,84,85,109]
(Cd 109
(Sn [
ic 2 8] [2]
.ret)
.skip))
(Sn [
mv 110 5,fa 111 2 7,ln 112 111,⟨none,.mapu none (.t 110) (.t 112) (.c (.bool true)),none⟩] [1,5,6,7,83,84,85]
(Ss [0,1,3,7,7,23,7,71,199,503,1015,2047,4095,8191] [
mv 113 6,bc 114 .gtr 113 0,mv 115 114,Gt 115 (ld 116 5 7),Gt 115 (fa 117 3 1),Gt 115 (ln 118 117),Gt 115 (mv 119 6),Gt 115 (bc 120 .sub 119 1),
Gt 115 (bc 121 .quo 120 2),Gt 115 (ia 122 5 118 121),Gt 115 (ld 123 5 122),Gt 115 (p2 124 68 116 123),Gt 115 (bc 125 .lss 124 0),
pan 126 115 125] [1,5,83,84,85,126]
(Cd 126
(Sn [
ic 2 8] [2]
.ret)
.skip))))))
(Rn [
bc 127 .add 85 1,mv 85 127] [1,5,83,84,85])))))))
(Sn [
ic 2 0] [2]
.ret)))))),
[.tmp 2]⟩
theorem x31_ok:ck x31 31:=by decide+kernel
def x32:XFunc:=⟨3,
(Sn [
bx 3 0,bx 4 1,bx 5 2,Al 6 z7,Fl 7,ic 8 0] [3,4,5,6]
(Ss [0,0,2,7,0,0,32,127,0,511,1023,1023,1023,8191,16383,32767] [
ld 9 1 3,fa 10 1 4,ln 11 10,p2 12 70 9 11,ld 13 1 3,fa 14 0 4,ln 15 14,p2 16 70 13 15,ld 17 2 5,p3 18 69 12 16 17,ex 19 0 18,ex 20 1 18,ex 21 2 18,
st 2 6 19,mv 7 20,mv 8 21] [6,7,8]
.ret)),
[.cell 6 (some 2),.tmp 7,.tmp 8]⟩
theorem x32_ok:ck x32 32:=by decide+kernel
def x33:XFunc:=⟨1,
(Sn [
bx 1 0,ic 2 0] [1]
(Sn [
⟨some 3,.mov (.c (.clo 71 [] [])),none⟩] [1,3]
(.seq
(Sn [
fa 4 0 1,ln 5 4,bc 6 .lss 5 0,mv 7 6,Gf 7 (fa 8 0 1),Gf 7 (ln 9 8),Gf 7 (bc 10 .gtr 9 65535),por 11 7 10,mv 12 11,Gf 12 (mv 13 3),Gf 12 (fa 14 1 1),
Gf 12 (ln 15 14),Gf 12 (⟨some 16,.callv (.t 13) [(.t 15)],none⟩),por 17 12 16,mv 18 17,Gf 18 (mv 19 3),Gf 18 (fa 20 2 1),Gf 18 (ln 21 20),
Gf 18 (⟨some 22,.callv (.t 19) [(.t 21)],none⟩),por 23 18 22] [23]
(Cd 23
(Sn [
ic 2 8] [2]
.ret)
.skip))
(Sn [
ic 2 0] [2]
.ret)))),
[.tmp 2]⟩
theorem x33_ok:ck x33 33:=by decide+kernel
def x34:XFunc:=⟨2,
(Sn [
bx 3 1,ic 4 0] [0,3]
(.seq
(Sn [
mv 6 0,le 7 6,ic 8 0] [0,3,7,8]
(.block 0
(.loop [(0,none),(3,none),(7,none),(8,none)]
(Sn [
bt 9 .lss 8 7] [0,3,7,8,9]
(.seq
(Cd 9
.skip
(.exit 0))
(.seq
(.block 1
(Sn [
mv 10 8,mv 5 10] [0,3,5,7,8]
(Ss [0,0,0,6,14,31] [
ld 11 2 3,mv 12 0,mv 13 5,ia 14 2 12 13,ld 15 2 14,⟨some 16,.eqc 2 false (.t 11) (.t 15),none⟩] [0,3,5,7,8,16]
(Cd 16
(Sn [
mv 17 5,mv 4 17] [4]
.ret)
.skip))))
(Rn [
bc 18 .add 8 1,mv 8 18] [0,3,7,8])))))))
(Sn [
ic 4 (-1)] [4]
.ret))),
[.tmp 4]⟩
theorem x34_ok:ck x34 34:=by decide+kernel
def x35:XFunc:=⟨2,
(Sn [
bx 2 0,ic 4 0,ic 5 0] [1,2]
(.seq
(Sn [
ld 9 1 2,p1 10 15 9,mv 6 10] [1,2,6]
(Sn [
mv 11 6,bc 12 .neq 11 0] [1,2,6,12]
(Cd 12
(Sn [
mv 13 6,ic 4 0,mv 5 13] [4,5]
.ret)
.skip)))
(Sn [
ld 15 1 2,mv 16 1,p2 17 72 15 16,mv 14 17,ex 18 0 14,ex 19 1 14,mv 7 18,mv 8 19] [7,8]
(.seq
(Sn [
mv 20 8,No 21 20] [7,21]
(Cd 21
(Sn [
ic 4 0,ic 5 6] [4,5]
.ret)
.skip))
(Sn [
mv 22 7,mv 4 22,ic 5 0] [4,5]
.ret))))),
[.tmp 4,.tmp 5]⟩
theorem x35_ok:ck x35 35:=by decide+kernel
def x36:XFunc:=⟨2,
(Sn [
bx 2 0,
Al 4 z0,
ic 5 0] [1,2,4]
(.seq
(Sn [
ld 10 11 2,p1 11 14 10,mv 6 11] [1,2,4,6]
(Sn [
mv 12 6,bc 13 .neq 12 0] [1,2,4,6,13]
(Cd 13
(Sn [
Bu 14 z0 [],
mv 15 6,st 11 4 14,mv 5 15] [4,5]
.ret)
.skip)))
(Sn [
ld 17 11 2,mv 18 1,p2 19 73 17 18,mv 16 19,ex 20 0 16,ex 21 1 16,ex 22 2 16,
Al 7 z0,
Al 8 z7,st 11 7 20,st 2 8 21,mv 9 22] [4,7,9]
(Sn [
ld 23 11 7,mv 24 9,st 11 4 23,mv 5 24] [4,5]
.ret)))),
[.cell 4 (some 11),.tmp 5]⟩
theorem x36_ok:ck x36 36:=by decide+kernel
def x37:XFunc:=⟨2,
(Sn [
Fl 4] [0,1]
(.seq
(Sn [
mv 6 0,le 7 6,mv 8 1,le 9 8,bt 10 .neq 7 9] [0,1,10]
(Cd 10
(Sn [
Fl 4] [4]
.ret)
.skip))
(.seq
(Sn [
mv 11 0,le 12 11,ic 13 0] [0,1,12,13]
(.block 0
(.loop [(0,none),(1,none),(12,none),(13,none)]
(Sn [
bt 14 .lss 13 12] [0,1,12,13,14]
(.seq
(Cd 14
.skip
(.exit 0))
(.seq
(.block 1
(Sn [
mv 15 13,mv 5 15] [0,1,5,12,13]
(Ss [0,0,3,7,0,0,48,112,255] [
mv 16 0,mv 17 5,ia 18 3 16 17,ld 19 3 18,mv 20 1,mv 21 5,ia 22 3 20 21,ld 23 3 22,⟨some 24,.eqc 3 true (.t 19) (.t 23),none⟩] [0,1,12,13,24]
(Cd 24
(Sn [
Fl 4] [4]
.ret)
.skip))))
(Rn [
bc 25 .add 13 1,mv 13 25] [0,1,12,13])))))))
(Sn [
Tr 4] [4]
.ret)))),
[.tmp 4]⟩
theorem x37_ok:ck x37 37:=by decide+kernel
def x38:XFunc:=⟨2,
(Sn [
bx 2 0,bx 3 1,
Al 4 z0,
ic 5 0] [2,3,4]
(.seq
(Sn [
ld 19 11 2,p1 20 14 19,mv 6 20] [2,3,4,6]
(Sn [
mv 21 6,bc 22 .neq 21 0] [2,3,4,6,22]
(Cd 22
(Sn [
Bu 23 z0 [],
mv 24 6,st 11 4 23,mv 5 24] [4,5]
.ret)
.skip)))
(.seq
(Sn [
ld 25 1 3,p1 26 15 25,mv 7 26] [2,3,4,7]
(Sn [
mv 27 7,bc 28 .neq 27 0] [2,3,4,7,28]
(Cd 28
(Sn [
Bu 29 z0 [],
mv 30 7,st 11 4 29,mv 5 30] [4,5]
.ret)
.skip)))
(.seq
(Sn [
fa 31 3 2,fa 32 1 31,ln 33 32,le 34 33,ic 35 0] [2,3,4,33,34,35]
(.block 0
(.loop [(2,none),(3,none),(4,none),(33,none),(34,none),(35,none)]
(Sn [
bt 36 .lss 35 34] [2,3,4,33,34,35,36]
(.seq
(Cd 36
.skip
(.exit 0))
(.seq
(.block 1
(Sn [
ia 37 3 33 35,ld 38 3 37,Al 9 z4,st 3 9 38] [2,3,4,9,33,34,35]
(Sn [
ld 39 1 3,fa 40 1 9,fa 41 0 40,ln 42 41,p2 43 70 39 42,⟨some 44,.fld none 0 (.t 43),none⟩,bc 45 .lss 44 0,mv 46 45,Gf 46 (ld 47 1 3),
Gf 46 (fa 48 1 9),Gf 46 (fa 49 1 48),Gf 46 (ln 50 49),Gf 46 (p2 51 70 47 50),Gf 46 (⟨some 52,.fld none 0 (.t 51),none⟩),Gf 46 (bc 53 .lss 52 0),
por 54 46 53] [2,3,4,33,34,35,54]
(Cd 54
(Sn [
Bu 55 z0 [],
st 11 4 55,ic 5 6] [4,5]
.ret)
.skip))))
(Rn [
bc 56 .add 35 1,mv 35 56] [2,3,4,33,34,35])))))))
(Sn [
ld 57 11 2,p1 58 74 57,
Al 10 z0,
st 11 10 58] [2,3,4,10]
(Sn [
fa 59 0 3,ln 60 59,p1 61 42 60,Bu 62 [.sl 3 true []] [(0,1,(.t 61))],fa 63 2 10,st 1 63 62,fa 64 10 10,
⟨none,.store 1 (.t 64) (.c (.sl 3 true [])),none⟩] [2,3,4,10]
(.seq
(Sn [
fa 65 3 2,fa 66 1 65,ln 67 66,le 68 67,ic 69 0] [2,3,4,10,67,68,69]
(.block 2
(.loop [(2,none),(3,none),(4,none),(10,none),(67,none),(68,none),(69,none),(10,some 11003)]
(Sn [
bt 70 .lss 69 68] [2,3,4,10,67,68,69,70]
(.seq
(Cd 70
.skip
(.exit 2))
(.seq
(.block 3
(Sn [
ia 71 3 67 69,ld 72 3 71,Al 12 z4,st 3 12 72] [2,3,4,10,12,67,68,69]
(Sn [
ld 74 1 3,fa 75 1 12,ld 76 2 75,fa 77 0 2,ld 78 2 77,p3 79 32 74 76 78,mv 73 79,ex 80 0 73,ex 81 1 73,ex 82 2 73,Al 13 z7,
st 2 13 80,mv 14 81,mv 15 82] [2,3,4,10,12,13,14,15,67,68,69]
(Sn [
fa 84 10 2,ln 85 84,fa 86 0 12,ln 87 86,p2 88 75 85 87,mv 83 88,ex 89 0 83,ex 90 1 83,mv 16 89,
mv 17 90] [2,3,4,10,12,13,14,15,16,17,67,68,69]
(.seq
(.block 4
(Sn [
mv 92 14,mv 93 92,Gt 93 (mv 94 17),pan 95 93 94,mv 91 95] [2,3,4,10,12,13,14,15,16,17,67,68,69,91]
(Cd 91
(Ss [0,1,0,4,0,28,60,124,0,511,1023,2047,2047,4095,12287,32767] [
fa 97 5 10,ld 98 5 97,fa 99 10 2,ln 100 99,mv 101 16,ia 102 3 100 101,fa 103 1 102,ld 104 2 103,ld 105 2 13,p3 106 76 98 104 105,mv 96 106,
ex 107 0 96,ex 108 1 96,fa 109 5 10,st 5 109 107,mv 15 108] [2,3,4,10,15,16,67,68,69]
(Rs [0,1,0,4,0,28,60,124,255,511,1023] [
fa 110 10 10,ln 111 110,fa 112 10 2,ln 113 112,mv 114 16,ia 115 3 113 114,ld 116 3 115,
⟨some 117,.mkrow 3 1 z4 [(0,(.t 116))],none⟩,ap 118 3 111 117,fa 119 10 10,
st 1 119 118] [2,3,4,10,15,67,68,69]))
(Sn [
mv 121 14,mv 120 121] [2,3,4,10,12,13,15,16,17,67,68,69,120]
(Cd 120
(Sn [
Al 18 z4] [2,3,4,10,12,13,18,67,68,69]
(Sn [
fa 122 0 12,ln 123 122,fa 124 0 18,st 1 124 123] [2,3,4,10,12,13,18,67,68,69]
(Sn [
fa 126 5 10,ld 127 5 126,ld 128 2 13,fa 129 0 12,ln 130 129,p3 131 77 127 128 130,mv 125 131,ex 132 0 125,ex 133 1 125,ex 134 2 125,fa 135 5 10,
st 5 135 132,fa 136 1 18,st 2 136 133,mv 15 134] [2,3,4,10,15,18,67,68,69]
(Rn [
fa 137 10 10,ln 138 137,ld 139 3 18,⟨some 140,.mkrow 3 1 z4 [(0,(.t 139))],none⟩,ap 141 3 138 140,fa 142 10 10,
st 1 142 141] [2,3,4,10,15,67,68,69]))))
(Sn [
mv 144 17,mv 143 144] [2,3,4,10,15,16,67,68,69,143]
(Cd 143
(Rs [0,1,0,4,0,28,60,124,255,511,1023,1023,1023,2047,10239,32767] [
fa 146 5 10,ld 147 5 146,fa 148 10 2,ln 149 148,mv 150 16,ia 151 3 149 150,fa 152 1 151,ld 153 2 152,p2 154 78 147 153,mv 145 154,ex 155 0 145,
ex 156 1 145,ex 157 2 145,fa 158 5 10,st 5 158 155,mv 15 157] [2,3,4,10,15,67,68,69])
.skip)))))))
(Sn [
mv 159 15,bc 160 .neq 159 0] [2,3,4,10,15,67,68,69,160]
(Cd 160
(Sn [
Bu 161 z0 [],
mv 162 15,st 11 4 161,mv 5 162] [4,5]
.ret)
.skip)))))))
(Rn [
bc 163 .add 69 1,mv 69 163] [2,3,4,10,67,68,69])))))))
(Sn [
ld 164 11 10,st 11 4 164,ic 5 0] [4,5]
.ret)))))))),
[.cell 4 (some 11),.tmp 5]⟩
theorem x38_ok:ck x38 38:=by decide+kernel
def x39:XFunc:=⟨2,
(Sn [
Fl 4] [0,1]
(Sn [
mv 5 0,mv 6 1,p2 7 79 5 6,bc 8 .geq 7 0,mv 4 8] [4]
.ret)),
[.tmp 4]⟩
theorem x39_ok:ck x39 39:=by decide+kernel
def x40:XFunc:=⟨2,
(Sn [
bx 2 0,Fl 3] [1,2]
(Sn [
fa 4 1 2,ld 5 2 4,ld 6 2 1,⟨some 7,.eqc 2 false (.t 5) (.t 6),none⟩,mv 3 7] [3]
.ret)),
[.tmp 3]⟩
theorem x40_ok:ck x40 40:=by decide+kernel
def x41:XFunc:=⟨2,
(Sn [
bx 2 0,bx 3 1,
Al 4 z0,
ic 5 0,ic 6 0] [2,3,4]
(Sn [
⟨some 7,.mov (.c (.clo 80 [] [])),none⟩] [2,3,4,7]
(.seq
(Sn [
ld 18 11 2,p1 19 14 18,mv 8 19] [2,3,4,7,8]
(Sn [
mv 20 8,bc 21 .neq 20 0] [2,3,4,7,8,21]
(Cd 21
(Sn [
mv 22 7,mv 23 8,⟨some 24,.callv (.t 22) [(.t 23)],none⟩,ex 25 0 24,ex 26 1 24,ex 27 2 24,st 11 4 25,mv 5 26,mv 6 27] [4,5,6]
.ret)
.skip)))
(Sn [
fa 29 3 2,ld 30 2 29,ld 31 2 3,p2 32 81 30 31,mv 28 32,ex 33 0 28,ex 34 1 28,ex 35 2 28,Al 9 z6,st 2 9 33,mv 10 34,
mv 11 35] [2,3,4,7,9,10,11]
(.seq
(Sn [
mv 36 11,bc 37 .eql 36 8] [2,3,4,7,9,10,11,37]
(Cd 37
(Sn [
mv 38 7,mv 39 11,⟨some 40,.callv (.t 38) [(.t 39)],none⟩,ex 41 0 40,ex 42 1 40,ex 43 2 40,st 11 4 41,mv 5 42,mv 6 43] [4,5,6]
.ret)
.skip))
(.seq
(Sn [
fa 44 2 2,ld 45 1 44,fa 46 0 3,ln 47 46,p2 48 70 45 47,⟨some 49,.fld none 0 (.t 48),none⟩,bc 50 .lss 49 0,mv 51 50,Gf 51 (fa 52 2 2),
Gf 51 (ld 53 1 52),Gf 51 (fa 54 1 3),Gf 51 (ln 55 54),Gf 51 (p2 56 70 53 55),Gf 51 (⟨some 57,.fld none 0 (.t 56),none⟩),Gf 51 (bc 58 .lss 57 0),
por 59 51 58] [2,3,4,7,9,10,11,59]
(Cd 59
(Sn [
mv 60 7,⟨some 61,.callv (.t 60) [(.c (.int .i64 6))],none⟩,ex 62 0 61,ex 63 1 61,ex 64 2 61,st 11 4 62,mv 5 63,mv 6 64] [4,5,6]
.ret)
.skip))
(.seq
(Sn [
mv 65 11,bc 66 .neq 65 0] [2,3,4,7,9,10,11,66]
(Cd 66
(Sn [
mv 67 7,mv 68 11,⟨some 69,.callv (.t 67) [(.t 68)],none⟩,ex 70 0 69,ex 71 1 69,ex 72 2 69,st 11 4 70,mv 5 71,mv 6 72] [4,5,6]
.ret)
.skip))
(Sn [
ld 73 11 2,⟨some 74,.call .own 74 [(.t 73)],none⟩,
Al 12 z0,
st 11 12 74] [2,3,4,7,9,10,12]
(Sn [
ld 75 2 9,fa 76 3 12,st 2 76 75] [2,3,4,7,10,12]
(Sn [
fa 78 2 2,ld 79 1 78,ld 80 2 3,fa 81 0 2,ld 82 2 81,p3 83 32 79 80 82,mv 77 83,ex 84 0 77,ex 85 1 77,ex 86 2 77,Al 13 z7,
st 2 13 84,mv 14 85,mv 11 86] [2,4,7,10,11,12,13,14]
(.seq
(Sn [
mv 87 11,bc 88 .neq 87 0] [2,4,7,10,11,12,13,14,88]
(Cd 88
(Sn [
mv 89 7,mv 90 11,⟨some 91,.callv (.t 89) [(.t 90)],none⟩,ex 92 0 91,ex 93 1 91,ex 94 2 91,st 11 4 92,mv 5 93,mv 6 94] [4,5,6]
.ret)
.skip))
(.seq
(Sn [
mv 95 14] [2,4,7,10,12,13,95]
(Cd 95
(Sn [
fa 97 5 2,ld 98 5 97,ld 99 2 13,mv 100 10,p3 101 77 98 99 100,mv 96 101,ex 102 0 96,ex 103 1 96,ex 104 2 96,
Al 15 z1,Al 16 z7,st 5 15 102,st 2 16 103,
mv 17 104] [4,7,10,12,15,16,17]
(.seq
(Sn [
mv 105 17,bc 106 .neq 105 0] [4,7,10,12,15,16,17,106]
(Cd 106
(Sn [
mv 107 7,mv 108 17,⟨some 109,.callv (.t 107) [(.t 108)],none⟩,ex 110 0 109,ex 111 1 109,ex 112 2 109,st 11 4 110,mv 5 111,mv 6 112] [4,5,6]
.ret)
.skip))
(Rs [0,0,2,0,0,24,56,126,7,511,1023,2047] [
ld 113 5 15,fa 114 10 12,ln 115 114,mv 116 10,ld 117 2 16,Bu 118 z4 [(0,1,(.t 116)),(1,2,(.t 117))],
⟨some 119,.mkrow 3 1 z4 [(0,(.t 118))],none⟩,ap 120 3 115 119,fa 121 5 12,st 5 121 113,fa 122 10 12,
st 1 122 120] [4,10,12])))
.skip))
(Sn [
ld 123 11 12,mv 124 10,st 11 4 123,mv 5 124,ic 6 0] [4,5,6]
.ret))))))))))))),
[.cell 4 (some 11),.tmp 5,.tmp 6]⟩
theorem x41_ok:ck x41 41:=by decide+kernel
def x48:XFunc:=⟨1,
(Sn [
bx 1 0,ic 2 0] [1]
(.seq
(Ss [0,1,3,7,15,31,63,127,255,511,1023,2047,511,4607,12799,32767,65535,131071] [
fa 3 1 1,ln 4 3,bc 5 .lss 4 1,mv 6 5,Gf 6 (fa 7 0 1),Gf 6 (ln 8 7),Gf 6 (bc 9 .eql 8 (-9223372036854775808)),por 10 6 9,mv 11 10,Gf 11 (fa 12 0 1),
Gf 11 (ln 13 12),Gf 11 (p1 14 83 13),Gf 11 (fa 15 1 1),Gf 11 (ln 16 15),Gf 11 (⟨some 17,.conv .u64 (.t 16),none⟩),Gf 11 (p2 18 82 14 17),
Gf 11 (⟨some 19,.bin .neq (.t 18) (.c (.int .u64 1)),none⟩),por 20 11 19] [20]
(Cd 20
(Sn [
ic 2 8] [2]
.ret)
.skip))
(Sn [
ic 2 0] [2]
.ret))),
[.tmp 2]⟩
theorem x48_ok:ck x48 48:=by decide+kernel
def x49:XFunc:=⟨1,
(Sn [
bx 1 0,ic 2 0] [1]
(.seq
(Sn [
fa 6 1 1,ln 7 6,le 8 7,bc 9 .gtr 8 200,mv 10 9,Gf 10 (fa 11 0 1),Gf 10 (ln 12 11),Gf 10 (bc 13 .lss 12 0),por 14 10 13,mv 15 14,Gf 15 (fa 16 0 1),
Gf 15 (ln 17 16),Gf 15 (bc 18 .gtr 17 1000000),por 19 15 18] [1,19]
(Cd 19
(Sn [
ic 2 8] [2]
.ret)
.skip))
(.seq
(Sn [
ic 3 0] [1,3]
(.block 0
(.loop [(1,none),(3,none)]
(.seq
(Sn [
mv 20 3,fa 21 1 1,ln 22 21,le 23 22,bt 24 .lss 20 23] [1,3,24]
(Cd 24
.skip
(.exit 0)))
(.seq
(.block 1
(Sn [
fa 27 1 1,ln 28 27,mv 29 3,ia 30 3 28 29,ld 31 3 30,Al 4 z4,st 3 4 31] [1,3,4]
(.seq
(Ss [0,1,3,7,15,31,63,127,255,511,1023,2047,1023,5119,16383,32767,65535,131071,262143,524287,1048575,2097151,1048575,5242879,16777215,33554431,67108863,1048575,135266303,536870911,1073741823,2147483647] [
fa 32 1 4,ld 33 2 32,p1 34 55 33,No 35 34,mv 36 35,Gf 36 (fa 37 0 4),Gf 36 (ln 38 37),Gf 36 (bc 39 .lss 38 0),por 40 36 39,mv 41 40,Gf 41 (fa 42 0 4),
Gf 41 (ln 43 42),Gf 41 (fa 44 0 1),Gf 41 (ln 45 44),Gf 41 (bt 46 .geq 43 45),por 47 41 46,mv 48 47,Gf 48 (mv 49 3),Gf 48 (bc 50 .gtr 49 0),
Gf 48 (mv 51 50),Gt 51 (fa 52 1 1),Gt 51 (ln 53 52),Gt 51 (mv 54 3),Gt 51 (bc 55 .sub 54 1),Gt 51 (ia 56 3 53 55),Gt 51 (fa 57 0 56),Gt 51 (ln 58 57),
Gt 51 (fa 59 0 4),Gt 51 (ln 60 59),Gt 51 (bt 61 .geq 58 60),Gf 48 (pan 62 51 61),por 63 48 62] [1,3,4,63]
(Cd 63
(Sn [
ic 2 8] [2]
.ret)
.skip))
(Sn [
ic 5 0] [1,3,4,5]
(.block 2
(.loop [(1,none),(3,none),(4,none),(5,none)]
(.seq
(Sn [
mv 64 5,mv 65 3,bt 66 .lss 64 65] [1,3,4,5,66]
(Cd 66
.skip
(.exit 2)))
(.seq
(.block 3
(Ss [0,1,0,7,15,31,0,64,255] [
fa 69 1 1,ln 70 69,mv 71 5,ia 72 3 70 71,fa 73 1 72,ld 74 2 73,fa 75 1 4,ld 76 2 75,⟨some 77,.eqc 2 false (.t 74) (.t 76),none⟩] [1,3,4,5,77]
(Cd 77
(Sn [
ic 2 8] [2]
.ret)
.skip)))
(Rn [
mv 67 5,bc 68 .add 67 1,mv 5 68] [1,3,4,5])))))))))
(Rn [
mv 25 3,bc 26 .add 25 1,mv 3 26] [1,3]))))))
(Sn [
ic 2 0] [2]
.ret)))),
[.tmp 2]⟩
theorem x49_ok:ck x49 49:=by decide+kernel
def x50:XFunc:=⟨2,
(Sn [
bx 2 0,bx 3 1,Fl 4] [2,3]
(.seq
(Sn [
ic 5 0] [2,3,5]
(.block 0
(.loop [(2,none),(3,none),(5,none)]
(.seq
(Sn [
mv 6 5,fa 7 1 2,ln 8 7,le 9 8,bt 10 .lss 6 9] [2,3,5,10]
(Cd 10
.skip
(.exit 0)))
(.seq
(.block 1
(Ss [0,0,2,0,14,30,62,126,255,511,1023,2047,2047,6143,2047,30719,63487,129023,260095,524287,1048575,2097151] [
ld 13 1 3,fa 14 1 2,ln 15 14,mv 16 5,ia 17 3 15 16,fa 18 1 17,fa 19 0 18,ln 20 19,p2 21 57 13 20,bc 22 .lss 21 0,mv 23 22,Gf 23 (ld 24 1 3),
Gf 23 (fa 25 1 2),Gf 23 (ln 26 25),Gf 23 (mv 27 5),Gf 23 (ia 28 3 26 27),Gf 23 (fa 29 1 28),Gf 23 (fa 30 1 29),Gf 23 (ln 31 30),Gf 23 (p2 32 57 24 31),
Gf 23 (bc 33 .lss 32 0),por 34 23 33] [2,3,5,34]
(Cd 34
(Sn [
Fl 4] [4]
.ret)
.skip)))
(Rn [
mv 11 5,bc 12 .add 11 1,mv 5 12] [2,3,5]))))))
(Sn [
Tr 4] [4]
.ret))),
[.tmp 4]⟩
theorem x50_ok:ck x50 50:=by decide+kernel
def x51:XFunc:=⟨1,
(Sn [
bx 1 0,ic 2 0] [1]
(.seq
(Sn [
fa 7 0 1,ld 8 3 7,p1 9 84 8,bc 10 .neq 9 0,mv 11 10,Gf 11 (ld 12 5 1),Gf 11 (p1 13 85 12),Gf 11 (No 14 13),por 15 11 14] [1,15]
(Cd 15
(Sn [
ic 2 8] [2]
.ret)
.skip))
(.seq
(Sn [
ic 3 0] [1,3]
(.block 0
(.loop [(1,none),(3,none)]
(.seq
(Sn [
mv 16 3,fa 17 3 1,ln 18 17,le 19 18,bt 20 .lss 16 19] [1,3,20]
(Cd 20
.skip
(.exit 0)))
(.seq
(.block 1
(Sn [
fa 23 3 1,ln 24 23,mv 25 3,ia 26 5 24 25,ld 27 5 26,Al 4 z2,st 5 4 27] [1,3,4]
(.seq
(Sn [
fa 28 0 4,ld 29 2 28,p1 30 48 29,bc 31 .neq 30 0,mv 32 31,Gf 32 (fa 33 2 4),Gf 32 (ln 34 33),Gf 32 (bc 35 .lss 34 0),por 36 32 35,mv 37 36,
Gf 37 (fa 38 2 4),Gf 37 (ln 39 38),Gf 37 (bc 40 .gtr 39 1000000),por 41 37 40] [1,3,4,41]
(Cd 41
(Sn [
ic 2 8] [2]
.ret)
.skip))
(Sn [
ic 5 0] [1,3,4,5]
(.block 2
(.loop [(1,none),(3,none),(4,none),(5,none)]
(.seq
(Sn [
mv 42 5,mv 43 3,bt 44 .lss 42 43] [1,3,4,5,44]
(Cd 44
.skip
(.exit 2)))
(.seq
(.block 3
(Ss [0,1,0,7,15,31,0,64,255] [
fa 47 3 1,ln 48 47,mv 49 5,ia 50 5 48 49,fa 51 2 50,ln 52 51,fa 53 2 4,ln 54 53,bt 55 .eql 52 54] [1,3,4,5,55]
(Cd 55
(Sn [
ic 2 8] [2]
.ret)
.skip)))
(Rn [
mv 45 5,bc 46 .add 45 1,mv 5 46] [1,3,4,5])))))))))
(Rn [
mv 21 3,bc 22 .add 21 1,mv 3 22] [1,3]))))))
(.seq
(Sn [
ic 6 1] [1,6]
(.block 4
(.loop [(1,none),(6,none)]
(.seq
(Sn [
mv 56 6,fa 57 3 1,ln 58 57,le 59 58,bt 60 .lss 56 59] [1,6,60]
(Cd 60
.skip
(.exit 4)))
(.seq
(.block 5
(Ss [0,1,0,7,15,0,32,0,128,384,992,2016,4095] [
fa 63 3 1,ln 64 63,mv 65 6,ia 66 5 64 65,ld 67 5 66,fa 68 3 1,ln 69 68,mv 70 6,bc 71 .sub 70 1,bc 72 .quo 71 2,ia 73 5 69 72,ld 74 5 73,
p2 75 86 67 74] [1,6,75]
(Cd 75
(Sn [
ic 2 8] [2]
.ret)
.skip)))
(Rn [
mv 61 6,bc 62 .add 61 1,mv 6 62] [1,6]))))))
(Sn [
ic 2 0] [2]
.ret))))),
[.tmp 2]⟩
theorem x51_ok:ck x51 51:=by decide+kernel
def x52:XFunc:=⟨3,
(Sn [
bx 3 0,bx 4 1,bx 5 2,Al 6 z7,Fl 7] [3,4,5,6]
(Ss [0,1,0,0,8,28,63,127,0,256,0,0,2048,7228,16188,32572,0,131071,262143,262143,1048575,2097151] [
fa 8 0 3,ln 9 8,ld 10 1 3,fa 11 1 4,ln 12 11,p2 13 57 10 12,ia 14 3 9 13,ld 15 3 14,fa 16 0 3,ln 17 16,ld 18 1 3,fa 19 0 4,ln 20 19,p2 21 57 18 20,
ia 22 3 17 21,ld 23 3 22,ld 24 2 5,p3 25 87 15 23 24,ex 26 0 25,ex 27 1 25,st 2 6 26,mv 7 27] [6,7]
.ret)),
[.cell 6 (some 2),.tmp 7]⟩
theorem x52_ok:ck x52 52:=by decide+kernel
def x53:XFunc:=⟨2,
(Sn [
bx 2 0,bx 3 1,Al 4 z2,ic 5 0] [2,3,4]
(.seq
(Sn [
ld 6 5 2,p1 7 51 6,bc 8 .neq 7 0] [2,3,4,8]
(Cd 8
(Sn [
Bu 9 z2 [],st 5 4 9,ic 5 8] [4,5]
.ret)
.skip))
(.seq
(Sn [
fa 10 0 2,ld 11 3 10,ld 12 2 3,p2 13 88 11 12,No 14 13] [2,3,4,14]
(Cd 14
(Sn [
Bu 15 z2 [],st 5 4 15,ic 5 6] [4,5]
.ret)
.skip))
(Ss [0,1,0,4,0,16,60,124,255,511,1023,2047] [
fa 16 3 2,ln 17 16,fa 18 4 2,ln 19 18,fa 20 0 3,ln 21 20,ia 22 1 19 21,ln 23 22,ia 24 5 17 23,ld 25 5 24,st 5 4 25,ic 5 0] [4,5]
.ret)))),
[.cell 4 (some 5),.tmp 5]⟩
theorem x53_ok:ck x53 53:=by decide+kernel
def x54:XFunc:=⟨1,
(Sn [
bx 1 0,ic 2 0] [1]
(.seq
(Sn [
fa 3 0 1,ln 4 3,bc 5 .lss 4 0,mv 6 5,Gf 6 (fa 7 0 1),Gf 6 (ln 8 7),Gf 6 (bc 9 .gtr 8 65535),por 10 6 9,mv 11 10,Gf 11 (fa 12 1 1),Gf 11 (ln 13 12),
Gf 11 (bc 14 .lss 13 (-1048576)),por 15 11 14,mv 16 15,Gf 16 (fa 17 1 1),Gf 16 (ln 18 17),Gf 16 (bc 19 .gtr 18 1048576),por 20 16 19,mv 21 20,
Gf 21 (fa 22 2 1),Gf 21 (ln 23 22),Gf 21 (bc 24 .lss 23 (-1048576)),por 25 21 24,mv 26 25,Gf 26 (fa 27 2 1),Gf 26 (ln 28 27),
Gf 26 (bc 29 .gtr 28 1048576),por 30 26 29] [30]
(Cd 30
(Sn [
ic 2 8] [2]
.ret)
.skip))
(Sn [
ic 2 0] [2]
.ret))),
[.tmp 2]⟩
theorem x54_ok:ck x54 54:=by decide+kernel
def x55:XFunc:=⟨1,
(Sn [
bx 1 0,Fl 2] [1]
(Sn [
fa 3 0 1,ln 4 3,bc 5 .geq 4 0,mv 6 5,Gt 6 (fa 7 0 1),Gt 6 (ln 8 7),Gt 6 (bc 9 .leq 8 65535),pan 10 6 9,mv 11 10,Gt 11 (fa 12 1 1),Gt 11 (ln 13 12),
Gt 11 (bc 14 .geq 13 0),pan 15 11 14,mv 16 15,Gt 16 (fa 17 1 1),Gt 16 (ln 18 17),Gt 16 (bc 19 .leq 18 65535),pan 20 16 19,mv 21 20,Gt 21 (fa 22 0 1),
Gt 21 (ln 23 22),Gt 21 (fa 24 1 1),Gt 21 (ln 25 24),Gt 21 (bt 26 .neq 23 25),pan 27 21 26,mv 2 27] [2]
.ret)),
[.tmp 2]⟩
theorem x55_ok:ck x55 55:=by decide+kernel
def x56:XFunc:=⟨2,
(Sn [
bx 3 1,Fl 4] [0,3]
(.seq
(Sn [
ic 5 0] [0,3,5]
(.block 0
(.loop [(0,none),(3,none),(5,none)]
(.seq
(Sn [
mv 6 5,mv 7 0,le 8 7,bt 9 .lss 6 8] [0,3,5,9]
(Cd 9
.skip
(.exit 0)))
(.seq
(.block 1
(Ss [0,0,3,7,0,31] [
mv 12 0,mv 13 5,ia 14 2 12 13,ld 15 2 14,ld 16 2 3,⟨some 17,.eqc 2 false (.t 15) (.t 16),none⟩] [0,3,5,17]
(Cd 17
(Sn [
Tr 4] [4]
.ret)
.skip)))
(Rn [
mv 10 5,bc 11 .add 10 1,mv 5 11] [0,3,5]))))))
(Sn [
Fl 4] [4]
.ret))),
[.tmp 4]⟩
theorem x56_ok:ck x56 56:=by decide+kernel
def x57:XFunc:=⟨2,
(Sn [
bx 2 0,ic 4 0] [1,2]
(.seq
(Sn [
ic 5 0] [1,2,5]
(.block 0
(.loop [(1,none),(2,none),(5,none)]
(.seq
(Sn [
mv 6 5,fa 7 0 2,ln 8 7,le 9 8,bt 10 .lss 6 9] [1,2,5,10]
(Cd 10
.skip
(.exit 0)))
(.seq
(.block 1
(Sn [
fa 13 0 2,ln 14 13,mv 15 5,ia 16 3 14 15,fa 17 0 16,ln 18 17,mv 19 1,bt 20 .eql 18 19] [1,2,5,20]
(Cd 20
(Sn [
mv 21 5,mv 4 21] [4]
.ret)
.skip)))
(Rn [
mv 11 5,bc 12 .add 11 1,mv 5 12] [1,2,5]))))))
(Sn [
ic 4 (-1)] [4]
.ret))),
[.tmp 4]⟩
theorem x57_ok:ck x57 57:=by decide+kernel
def x58:XFunc:=⟨2,
(Sn [
bx 2 0,
Al 4 z0] [1,2,4]
(Sn [
ld 7 11 2,⟨some 8,.call .own 6 [(.t 7)],none⟩,
Al 5 z0,
st 11 5 8] [1,2,4,5]
(Sn [
fa 9 3 2,ld 10 2 9,mv 11 1,p2 12 89 10 11,fa 13 3 5,st 2 13 12] [1,2,4,5]
(.seq
(Sn [
ld 14 11 2,mv 15 1,p2 16 90 14 15,mv 6 16] [2,4,5,6]
(Sn [
mv 17 6,bc 18 .geq 17 0] [2,4,5,6,18]
(Cd 18
(Ss [0,1,0,4,0,28,60,124,255,511,1023] [
fa 19 5 2,ld 20 5 19,fa 21 10 2,ln 22 21,mv 23 6,ia 24 3 22 23,fa 25 1 24,ld 26 2 25,p2 27 91 20 26,fa 28 5 5,st 5 28 27] [2,4,5,6]
(Rs [0,0,2,0,14,31,0,64,0,256,960,2047,4095,8191] [
⟨some 29,.mkrow 3 0 z4 [],none⟩,fa 30 10 2,ln 31 30,mv 32 6,⟨some 33,.slc 3 (.t 31) none (some (.t 32)) none,none⟩,
ap 34 3 29 33,fa 35 10 2,ln 36 35,mv 37 6,bc 38 .add 37 1,⟨some 39,.slc 3 (.t 36) (some (.t 38)) none none,none⟩,ap 40 3 34 39,fa 41 10 5,
st 1 41 40] [4,5]))
.skip)))
(Sn [
ld 42 11 5,st 11 4 42] [4]
.ret))))),
[.cell 4 (some 11)]⟩
theorem x58_ok:ck x58 58:=by decide+kernel
def x59:XFunc:=⟨2,
(Sn [
bx 2 0,bx 3 1,
Al 4 z0,
ic 5 0] [2,3,4]
(Sn [
ld 14 11 2,p1 15 6 14,
Al 6 z0,
st 11 6 15] [2,3,4,6]
(Sn [
ld 16 1 3,p1 17 11 16,fa 18 2 6,st 1 18 17] [2,3,4,6]
(Sn [
fa 19 10 6,⟨none,.store 1 (.t 19) (.c (.sl 3 true [])),none⟩] [2,3,4,6]
(.seq
(Sn [
ic 7 0] [2,3,4,6,7]
(.block 0
(.loop [(2,none),(3,none),(4,none),(6,none),(7,none),(6,some 11003)]
(.seq
(Sn [
mv 20 7,fa 21 3 2,fa 22 1 21,ln 23 22,le 24 23,bt 25 .lss 20 24] [2,3,4,6,7,25]
(Cd 25
.skip
(.exit 0)))
(.seq
(.block 1
(Sn [
fa 28 3 2,fa 29 1 28,ln 30 29,mv 31 7,ia 32 3 30 31,ld 33 3 32,Al 8 z4,st 3 8 33] [2,3,4,6,7,8]
(Sn [
ld 34 11 2,fa 35 0 8,ln 36 35,p2 37 90 34 36,mv 9 37] [2,3,4,6,7,8,9]
(Sn [
ld 39 1 3,fa 40 1 8,ld 41 2 40,fa 42 0 2,ld 43 2 42,p3 44 52 39 41 43,mv 38 44,ex 45 0 38,ex 46 1 38,Al 10 z7,st 2 10 45,
mv 11 46] [2,3,4,6,7,8,9,10,11]
(.seq
(Sn [
mv 47 11,mv 48 47,Gt 48 (mv 49 9),Gt 48 (bc 50 .geq 49 0),pan 51 48 50] [2,3,4,6,7,8,9,10,11,51]
(Cd 51
(Ss [0,1,0,4,0,28,60,124,0,511,1023,2047] [
fa 52 5 6,ld 53 5 52,fa 54 10 2,ln 55 54,mv 56 9,ia 57 3 55 56,fa 58 1 57,ld 59 2 58,ld 60 2 10,p3 61 92 53 59 60,fa 62 5 6,
st 5 62 61] [2,3,4,6,7,8,9,10,11]
(Rs [0,1,0,4,0,28,60,124,255,511,1023] [
fa 63 10 6,ln 64 63,fa 65 10 2,ln 66 65,mv 67 9,ia 68 3 66 67,ld 69 3 68,
⟨some 70,.mkrow 3 1 z4 [(0,(.t 69))],none⟩,ap 71 3 64 70,fa 72 10 6,st 1 72 71] [2,3,4,6,7,8,9,10,11]))
.skip))
(.seq
(Sn [
mv 73 11,No 74 73,mv 75 74,Gt 75 (mv 76 9),Gt 75 (bc 77 .geq 76 0),pan 78 75 77] [2,3,4,6,7,8,9,10,11,78]
(Cd 78
(Rs [0,1,0,4,0,28,60,124,255,511,1023] [
fa 79 5 6,ld 80 5 79,fa 81 10 2,ln 82 81,mv 83 9,ia 84 3 82 83,fa 85 1 84,ld 86 2 85,p2 87 91 80 86,fa 88 5 6,
st 5 88 87] [2,3,4,6,7,8,9,10,11])
.skip))
(.seq
(Sn [
mv 89 11,No 90 89,mv 91 90,Gf 91 (mv 92 9),Gf 91 (bc 93 .geq 92 0),por 94 91 93] [2,3,4,6,7,8,10,94]
(Cd 94
(.exit 1)
.skip))
(.seq
(Sn [
fa 95 5 6,fa 96 0 95,ld 97 3 96,p1 98 93 97,No 99 98] [2,3,4,6,7,8,10,99]
(Cd 99
(Sn [
Bu 100 z0 [],
st 11 4 100,ic 5 18] [4,5]
.ret)
.skip))
(Sn [
fa 102 5 6,ld 103 5 102,ld 104 2 10,fa 105 0 8,ln 106 105,p3 107 94 103 104 106,mv 101 107,ex 108 0 101,ex 109 1 101,
Al 12 z1,Al 13 z7,st 5 12 108,
st 2 13 109] [2,3,4,6,7,8,12,13]
(Sn [
ld 110 5 12,fa 111 5 6,st 5 111 110] [2,3,4,6,7,8,13]
(Rn [
fa 112 10 6,ln 113 112,fa 114 0 8,ln 115 114,ld 116 2 13,Bu 117 z4 [(0,1,(.t 115)),(1,2,(.t 116))],
⟨some 118,.mkrow 3 1 z4 [(0,(.t 117))],none⟩,ap 119 3 113 118,fa 120 10 6,st 1 120 119] [2,3,4,6,7])))))))))))
(Rn [
mv 26 7,bc 27 .add 26 1,mv 7 27] [2,3,4,6,7]))))))
(Sn [
ld 121 11 6,st 11 4 121,ic 5 0] [4,5]
.ret)))))),
[.cell 4 (some 11),.tmp 5]⟩
theorem x59_ok:ck x59 59:=by decide+kernel
def x60:XFunc:=⟨2,
(Sn [
bx 2 0,bx 3 1,Fl 4] [2,3]
(.seq
(Sn [
ic 5 0] [2,3,5]
(.block 0
(.loop [(2,none),(3,none),(5,none)]
(.seq
(Sn [
mv 6 5,fa 7 1 2,ln 8 7,le 9 8,bt 10 .lss 6 9] [2,3,5,10]
(Cd 10
.skip
(.exit 0)))
(.seq
(.block 1
(Ss [0,1,0,7,15,31,0,127] [
fa 13 1 2,ln 14 13,mv 15 5,ia 16 3 14 15,fa 17 1 16,ld 18 2 17,ld 19 2 3,⟨some 20,.eqc 2 false (.t 18) (.t 19),none⟩] [2,3,5,20]
(Cd 20
(Sn [
Tr 4] [4]
.ret)
.skip)))
(Rn [
mv 11 5,bc 12 .add 11 1,mv 5 12] [2,3,5]))))))
(Sn [
Fl 4] [4]
.ret))),
[.tmp 4]⟩
theorem x60_ok:ck x60 60:=by decide+kernel
def x61:XFunc:=⟨2,
(Sn [
bx 2 0,bx 3 1,
Al 4 z0,
ic 5 0,ic 6 0] [2,3,4]
(Sn [
fa 16 3 2,ld 17 2 16,ld 18 2 3,p2 19 95 17 18,mv 15 19,ex 20 0 15,ex 21 1 15,ex 22 2 15,Al 7 z6,st 2 7 20,mv 8 21,
mv 9 22] [2,3,4,7,8,9]
(.seq
(Sn [
mv 23 9,bc 24 .neq 23 0] [2,3,4,7,8,9,24]
(Cd 24
(Sn [
Bu 25 z0 [],
mv 26 9,st 11 4 25,ic 5 0,mv 6 26] [4,5,6]
.ret)
.skip))
(Sn [
ld 27 11 2,⟨some 28,.call .own 6 [(.t 27)],none⟩,
Al 10 z0,
st 11 10 28] [2,3,4,7,8,10]
(Sn [
ld 29 2 7,fa 30 3 10,st 2 30 29] [2,3,4,8,10]
(Sn [
fa 32 2 2,ld 33 1 32,ld 34 2 3,fa 35 0 2,ld 36 2 35,p3 37 52 33 34 36,mv 31 37,ex 38 0 31,ex 39 1 31,Al 11 z7,st 2 11 38,
mv 12 39] [2,4,8,10,11,12]
(.seq
(Sn [
mv 40 12,No 41 40] [2,4,8,10,11,41]
(Cd 41
(Sn [
ld 42 11 10,mv 43 8,st 11 4 42,mv 5 43,ic 6 0] [4,5,6]
.ret)
.skip))
(.seq
(Sn [
fa 44 5 2,fa 45 0 44,ld 46 3 45,p1 47 93 46,No 48 47] [2,4,8,10,11,48]
(Cd 48
(Sn [
Bu 49 z0 [],
st 11 4 49,ic 5 0,ic 6 18] [4,5,6]
.ret)
.skip))
(Sn [
fa 51 5 2,ld 52 5 51,ld 53 2 11,mv 54 8,p3 55 94 52 53 54,mv 50 55,ex 56 0 50,ex 57 1 50,
Al 13 z1,Al 14 z7,st 5 13 56,st 2 14 57] [4,8,10,13,14]
(Sn [
ld 58 5 13,fa 59 5 10,st 5 59 58] [4,8,10,14]
(Sn [
fa 60 10 10,ln 61 60,mv 62 8,ld 63 2 14,Bu 64 z4 [(0,1,(.t 62)),(1,2,(.t 63))],
⟨some 65,.mkrow 3 1 z4 [(0,(.t 64))],none⟩,ap 66 3 61 65,fa 67 10 10,st 1 67 66] [4,8,10]
(Sn [
ld 68 11 10,mv 69 8,st 11 4 68,mv 5 69,ic 6 0] [4,5,6]
.ret)))))))))))),
[.cell 4 (some 11),.tmp 5,.tmp 6]⟩
theorem x61_ok:ck x61 61:=by decide+kernel
def x62:XFunc:=⟨2,
(Sn [
bx 2 0,bx 3 1,Fl 4] [2,3]
(Sn [
fa 5 0 2,ln 6 5,fa 7 0 3,ln 8 7,p2 9 63 6 8,mv 10 9,Gt 10 (fa 11 1 2),Gt 10 (ln 12 11),Gt 10 (fa 13 1 3),Gt 10 (ln 14 13),Gt 10 (p2 15 96 12 14),
pan 16 10 15,mv 17 16,Gt 17 (fa 18 2 2),Gt 17 (ln 19 18),Gt 17 (fa 20 2 3),Gt 17 (ln 21 20),Gt 17 (p2 22 63 19 21),pan 23 17 22,mv 4 23] [4]
.ret)),
[.tmp 4]⟩
theorem x62_ok:ck x62 62:=by decide+kernel
def x63:XFunc:=⟨2,
(Sn [
Fl 4] [0,1]
(.seq
(Sn [
mv 6 0,le 7 6,mv 8 1,le 9 8,bt 10 .neq 7 9] [0,1,10]
(Cd 10
(Sn [
Fl 4] [4]
.ret)
.skip))
(.seq
(Sn [
ic 5 0] [0,1,5]
(.block 0
(.loop [(0,none),(1,none),(5,none)]
(.seq
(Sn [
mv 11 5,mv 12 0,le 13 12,bt 14 .lss 11 13] [0,1,5,14]
(Cd 14
.skip
(.exit 0)))
(.seq
(.block 1
(Ss [0,0,3,7,0,0,48,112,255] [
mv 17 0,mv 18 5,ia 19 1 17 18,ln 20 19,mv 21 1,mv 22 5,ia 23 1 21 22,ln 24 23,bt 25 .neq 20 24] [0,1,5,25]
(Cd 25
(Sn [
Fl 4] [4]
.ret)
.skip)))
(Rn [
mv 15 5,bc 16 .add 15 1,mv 5 16] [0,1,5]))))))
(Sn [
Tr 4] [4]
.ret)))),
[.tmp 4]⟩
theorem x63_ok:ck x63 63:=by decide+kernel
def x64:XFunc:=⟨2,
(Sn [
⟨some 4,.mov (.c (.int .u64 0)),none⟩] [0,1]
(.seq
(.block 0
(.loop [(0,none),(1,none)]
(.seq
(Sn [
mv 5 1,⟨some 6,.bin .gtr (.t 5) (.c (.int .u64 0)),none⟩] [0,1,6]
(Cd 6
.skip
(.exit 0)))
(.block 1
(Rs [0,0,0,6,3,31] [
mv 7 1,mv 8 0,mv 9 1,bt 10 .rem 8 9,mv 0 7,mv 1 10] [0,1])))))
(Sn [
mv 11 0,mv 4 11] [4]
.ret))),
[.tmp 4]⟩
theorem x64_ok:ck x64 64:=by decide+kernel
def x65:XFunc:=⟨1,
(Sn [
⟨some 2,.mov (.c (.int .u64 0)),none⟩] [0]
(.seq
(Sn [
mv 3 0,bc 4 .lss 3 0] [0,4]
(Cd 4
(Sn [
mv 5 0,⟨some 6,.conv .u64 (.t 5),none⟩,⟨some 7,.un .neg (.t 6),none⟩,mv 2 7] [2]
.ret)
.skip))
(Sn [
mv 8 0,⟨some 9,.conv .u64 (.t 8),none⟩,mv 2 9] [2]
.ret))),
[.tmp 2]⟩
theorem x65_ok:ck x65 65:=by decide+kernel
def x66:XFunc:=⟨1,
(Sn [
bx 1 0,Fl 2] [1]
(Sn [
fa 3 0 1,ln 4 3,fa 5 1 1,ln 6 5,⟨some 7,.mm false (.t 4) [(.t 6)],none⟩,bc 8 .geq 7 0,mv 9 8,Gt 9 (fa 10 0 1),Gt 9 (ln 11 10),Gt 9 (fa 12 1 1),
Gt 9 (ln 13 12),Gt 9 (⟨some 14,.mm true (.t 11) [(.t 13)],none⟩),Gt 9 (bc 15 .leq 14 65535),pan 16 9 15,mv 17 16,Gt 17 (fa 18 0 1),Gt 17 (ln 19 18),
Gt 17 (fa 20 1 1),Gt 17 (ln 21 20),Gt 17 (bt 22 .neq 19 21),pan 23 17 22,mv 2 23] [2]
.ret)),
[.tmp 2]⟩
theorem x66_ok:ck x66 66:=by decide+kernel
def x67:XFunc:=⟨1,
(Sn [
bx 1 0,ic 2 0] [1]
(Sn [
fa 8 0 1,ln 9 8,le 10 9,Al 3 [.int .i64 0],st 1 3 10] [1,3]
(.seq
(Sn [
ln 11 3,bc 12 .lss 11 1,mv 13 12,Gf 13 (ln 14 3),Gf 13 (bc 15 .gtr 14 200),por 16 13 15,mv 17 16,Gf 17 (fa 18 1 1),Gf 17 (ln 19 18),Gf 17 (le 20 19),
Gf 17 (ln 21 3),Gf 17 (bt 22 .neq 20 21),por 23 17 22] [1,3,23]
(Cd 23
(Sn [
ic 2 8] [2]
.ret)
.skip))
(Sn [
fa 24 1 1,ln 25 24,p1 26 47 25,Al 4 [.sl 1 true []],st 1 4 26] [1,3,4]
(Sn [
fa 27 2 1,ln 28 27,⟨some 29,.mkf 98 [] [(.t 3),(.t 4)],none⟩,⟨some 30,.call .shr 97 [(.t 28),(.t 29)],none⟩,mv 5 30] [1,4,5]
(.seq
(Sn [
mv 31 5,mv 32 31,Gf 32 (ln 33 4),Gf 32 (⟨some 34,.call .pur 99 [(.t 33),(.c (.bool false))],none⟩),por 35 32 34] [1,35]
(Cd 35
(Sn [
ic 2 8] [2]
.ret)
.skip))
(.seq
(Sn [
fa 36 0 1,ln 37 36,le 38 37,ic 39 0] [1,37,38,39]
(.block 0
(.loop [(1,none),(37,none),(38,none),(39,none)]
(Sn [
bt 40 .lss 39 38] [1,37,38,39,40]
(.seq
(Cd 40
.skip
(.exit 0))
(.seq
(.block 1
(Sn [
mv 41 39,ia 42 1 37 39,ln 43 42,mv 6 41,mv 7 43] [1,6,7,37,38,39]
(Sn [
mv 44 7,bc 45 .lss 44 0,mv 46 45,Gf 46 (mv 47 7),Gf 46 (bc 48 .gtr 47 1000000),por 49 46 48,mv 50 49,Gf 50 (mv 51 7),Gf 50 (bc 52 .eql 51 0),
Gf 50 (mv 53 52),Gt 53 (fa 54 1 1),Gt 53 (ln 55 54),Gt 53 (mv 56 6),Gt 53 (ia 57 1 55 56),Gt 53 (ln 58 57),Gf 50 (pan 59 53 58),
por 60 50 59] [1,37,38,39,60]
(Cd 60
(Sn [
ic 2 8] [2]
.ret)
.skip))))
(Rn [
bc 61 .add 39 1,mv 39 61] [1,37,38,39])))))))
(Sn [
ic 2 0] [2]
.ret)))))))),
[.tmp 2]⟩
theorem x67_ok:ck x67 67:=by decide+kernel
def x68:XFunc:=⟨2,
(Sn [
bx 2 0,bx 3 1,ic 4 0] [2,3]
(Sn [
fa 8 0 2,ld 9 2 8,fa 10 0 3,ld 11 2 10,p2 12 100 9 11,mv 7 12,ex 13 0 7,ex 14 1 7,mv 5 13,mv 6 14] [2,3,5]
(Sn [
mv 15 5,fa 16 2 2,ln 17 16,fa 18 2 3,ln 19 18,p2 20 102 17 19,⟨some 21,.mkrow 1 2 [.int .i64 0] [(0,(.t 15)),(1,(.t 20))],none⟩,p1 22 101 21,
mv 4 22] [4]
.ret))),
[.tmp 4]⟩
theorem x68_ok:ck x68 68:=by decide+kernel
def x69:XFunc:=⟨3,
(Sn [
bx 3 0,bx 4 1,bx 5 2,Al 6 z7,Fl 7,ic 8 0] [3,4,5,6]
(.seq
(Sn [
ld 12 3 3,ld 13 3 4,ld 14 2 5,p3 15 103 12 13 14,mv 9 15] [3,4,5,6,9]
(Sn [
mv 16 9,bc 17 .neq 16 0] [3,4,5,6,9,17]
(Cd 17
(Sn [
Bu 18 z7 [],mv 19 9,st 2 6 18,Fl 7,mv 8 19] [6,7,8]
.ret)
.skip)))
(.seq
(Sn [
ld 20 3 4,ld 21 3 3,ld 22 2 5,p3 23 104 20 21 22,bc 24 .gtr 23 0] [3,4,5,6,24]
(Cd 24
(Sn [
ld 25 2 5,st 2 6 25,Tr 7,ic 8 0] [6,7,8]
.ret)
.skip))
(.seq
(Sn [
fa 26 2 4,ln 27 26,fa 28 2 3,ln 29 28,bt 30 .leq 27 29] [3,4,6,30]
(Cd 30
(Sn [
Bu 31 z7 [],st 2 6 31,Fl 7,ic 8 0] [6,7,8]
.ret)
.skip))
(Sn [
ld 33 3 3,ld 34 3 4,p2 35 105 33 34,mv 32 35,ex 36 0 32,ex 37 1 32,Al 10 z7,st 2 10 36,mv 11 37] [6,10,11]
(Sn [
ld 38 2 10,mv 39 11,bc 40 .eql 39 0,mv 41 11,st 2 6 38,mv 7 40,mv 8 41] [6,7,8]
.ret)))))),
[.cell 6 (some 2),.tmp 7,.tmp 8]⟩
theorem x69_ok:ck x69 69:=by decide+kernel
def x70:XFunc:=⟨2,
(Sn [
bx 2 0,Al 4 z4] [1,2,4]
(Sn [
fa 8 0 2,ln 9 8,mv 10 1,⟨some 11,.call .pur 106 [(.t 9),(.t 10),(.c (.clo 107 [] []))],none⟩,mv 7 11,ex 12 0 7,ex 13 1 7,mv 5 12,
mv 6 13] [2,4,5,6]
(.seq
(Sn [
mv 14 6,No 15 14] [2,4,5,15]
(Cd 15
(Sn [
Bu 16 z4 [(0,1,(.c (.int .i64 (-1))))],st 3 4 16] [4]
.ret)
.skip))
(Sn [
fa 17 0 2,ln 18 17,mv 19 5,ia 20 3 18 19,ld 21 3 20,st 3 4 21] [4]
.ret)))),
[.cell 4 (some 3)]⟩
theorem x70_ok:ck x70 70:=by decide+kernel
def x71:XFunc:=⟨1,
(Sn [
Fl 2] [0]
(Sn [
mv 3 0,bc 4 .lss 3 (-1048576),mv 5 4,Gf 5 (mv 6 0),Gf 5 (bc 7 .gtr 6 1048576),por 8 5 7,mv 2 8] [2]
.ret)),
[.tmp 2]⟩
theorem x71_ok:ck x71 71:=by decide+kernel
def x72:XFunc:=⟨2,
(Sn [
bx 2 0,ic 4 0,Fl 5] [1,2]
(Sn [
fa 6 0 2,ln 7 6,mv 8 1,⟨some 9,.call .pur 106 [(.t 7),(.t 8),(.c (.clo 108 [] []))],none⟩,ex 10 0 9,ex 11 1 9,mv 4 10,mv 5 11] [4,5]
.ret)),
[.tmp 4,.tmp 5]⟩
theorem x72_ok:ck x72 72:=by decide+kernel
def x73:XFunc:=⟨2,
(Sn [
bx 2 0,
Al 4 z0,
Al 5 z7,ic 6 0] [1,2,4,5]
(Sn [
fa 17 3 2,ld 18 2 17,mv 19 1,p2 20 109 18 19,mv 16 20,ex 21 0 16,ex 22 1 16,ex 23 2 16,Al 7 z6,
Al 8 z7,st 2 7 21,st 2 8 22,mv 9 23] [1,2,4,5,7,8,9]
(.seq
(Sn [
mv 24 9,bc 25 .neq 24 0] [1,2,4,5,7,8,9,25]
(Cd 25
(Ss [0,0,0,1,11,31] [
Bu 26 z0 [],
ld 27 2 8,mv 28 9,st 11 4 26,st 2 5 27,mv 6 28] [4,5,6]
.ret)
.skip))
(Sn [
ld 29 11 2,⟨some 30,.call .own 74 [(.t 29)],none⟩,
Al 10 z0,
st 11 10 30] [1,2,4,5,7,8,10]
(Sn [
ld 31 2 7,fa 32 3 10,st 2 32 31] [1,2,4,5,8,10]
(.seq
(Sn [
fa 34 10 2,ln 35 34,mv 36 1,p2 37 75 35 36,mv 33 37,ex 38 0 33,ex 39 1 33,mv 11 38,mv 12 39] [2,4,5,8,10,11,12]
(Sn [
mv 40 12] [2,4,5,8,10,11,40]
(Cd 40
(Ss [0,1,0,4,0,28,60,124,255,511,1023,1023,1023,0,0,26623,61439,131071] [
fa 42 5 2,ld 43 5 42,fa 44 10 2,ln 45 44,mv 46 11,ia 47 3 45 46,fa 48 1 47,ld 49 2 48,p2 50 78 43 49,mv 41 50,ex 51 0 41,ex 52 1 41,ex 53 2 41,
Al 13 z1,Al 14 z2,
st 5 13 51,st 5 14 52,mv 15 53] [4,5,8,10,11,13,15]
(.seq
(Sn [
mv 54 15,bc 55 .neq 54 0] [4,5,8,10,11,13,15,55]
(Cd 55
(Ss [0,0,0,1,11,31] [
Bu 56 z0 [],
ld 57 2 8,mv 58 15,st 11 4 56,st 2 5 57,mv 6 58] [4,5,6]
.ret)
.skip))
(Rs [0,0,2,0,0,16,62,7,255,511,1023] [
ld 59 5 13,fa 60 10 10,ln 61 60,mv 62 11,mv 63 11,bc 64 .add 63 1,⟨some 65,.call .fp 110 [(.t 61),(.t 62),(.t 64)],none⟩,fa 66 5 10,st 5 66 59,
fa 67 10 10,st 1 67 65] [4,5,8,10])))
.skip)))
(Ss [0,0,1,7,15] [
ld 68 11 10,ld 69 2 8,st 11 4 68,st 2 5 69,ic 6 0] [4,5,6]
.ret))))))),
[.cell 4 (some 11),.cell 5 (some 2),.tmp 6]⟩
theorem x73_ok:ck x73 73:=by decide+kernel
def x74:XFunc:=⟨1,
(Sn [
bx 1 0,
Al 2 z0] [1,2]
(Ss [0,1,3,7,0,16,48,127,0,256,1023,2047,4095,8191,16383,32767,65535,131071,262143] [
fa 4 2 1,fa 5 0 4,ln 6 5,p1 7 42 6,fa 8 3 1,fa 9 1 8,ln 10 9,p1 11 43 10,fa 12 10 1,ln 13 12,p1 14 44 13,fa 15 2 1,fa 16 0 15,st 1 16 7,fa 17 3 1,
fa 18 1 17,st 1 18 11,fa 19 10 1,st 1 19 14] [1,2]
(Ss [0,1,3,7,0,16,48,127,255,511,1023,2047,4095,8191] [
fa 20 5 1,fa 21 3 20,ln 22 21,p1 23 45 22,fa 24 5 1,fa 25 4 24,ln 26 25,p1 27 46 26,fa 28 5 1,fa 29 3 28,st 1 29 23,fa 30 5 1,fa 31 4 30,
st 1 31 27] [1,2]
(Sn [
fa 32 5 1,fa 33 0 32,mv 3 33] [1,2,3]
(Ss [0,0,0,0,8,24,56,120,0,256,768,1792,4088,0,8192,24576,57344,131064,262137,524281,1048569,2097147,4194299,8388603,16777215,33554431,67108863] [
mv 34 3,mv 35 3,mv 36 3,mv 37 3,⟨some 38,.nilc (.t 37),none⟩,fa 39 0 38,ln 40 39,p1 41 46 40,mv 42 3,⟨some 43,.nilc (.t 42),none⟩,fa 44 1 43,
ln 45 44,p1 46 47 45,mv 47 3,⟨some 48,.nilc (.t 47),none⟩,fa 49 2 48,ln 50 49,p1 51 46 50,⟨some 52,.nilc (.t 34),none⟩,fa 53 0 52,st 1 53 41,
⟨some 54,.nilc (.t 35),none⟩,fa 55 1 54,st 1 55 46,⟨some 56,.nilc (.t 36),none⟩,fa 57 2 56,st 1 57 51] [1,2]
(Sn [
ld 58 11 1,st 11 2 58] [2]
.ret)))))),
[.cell 2 (some 11)]⟩
theorem x74_ok:ck x74 74:=by decide+kernel
def x75:XFunc:=⟨2,
(Sn [
ic 4 0,Fl 5] [0,1]
(Sn [
mv 6 0,mv 7 1,⟨some 8,.call .pur 111 [(.t 6),(.t 7),(.c (.clo 112 [] []))],none⟩,ex 9 0 8,ex 10 1 8,mv 4 9,mv 5 10] [4,5]
.ret)),
[.tmp 4,.tmp 5]⟩
theorem x75_ok:ck x75 75:=by decide+kernel
def x76:XFunc:=⟨3,
(Sn [
bx 3 0,bx 4 1,bx 5 2,Al 6 z1,ic 7 0] [3,4,5,6]
(.seq
(Ss [0,1,0,7,15,31] [
ld 13 5 3,p1 14 31 13,ld 15 2 5,p1 16 29 15,⟨some 17,.mm true (.t 14) [(.t 16)],none⟩,mv 8 17] [3,4,5,6,8]
(Sn [
mv 18 8,bc 19 .neq 18 0] [3,4,5,6,8,19]
(Cd 19
(Sn [
Bu 20 z1 [],mv 21 8,st 5 6 20,mv 7 21] [6,7]
.ret)
.skip)))
(Sn [
ld 23 5 3,ld 24 2 4,p2 25 113 23 24,mv 22 25,ex 26 0 22,ex 27 1 22,mv 9 26,mv 10 27] [3,5,6,9,10]
(.seq
(Sn [
mv 28 10,bc 29 .neq 28 0] [3,5,6,9,10,29]
(Cd 29
(Sn [
Bu 30 z1 [],mv 31 10,st 5 6 30,mv 7 31] [6,7]
.ret)
.skip))
(Sn [
ld 32 5 3,⟨some 33,.call .shr 114 [(.t 32)],none⟩,Al 11 z1,
st 5 11 33] [5,6,9,11]
(Sn [
fa 34 3 11,ln 35 34,mv 36 9,ia 37 5 35 36,ld 38 5 37,Al 12 z2,st 5 12 38] [5,6,9,11,12]
(Sn [
ld 39 2 5,fa 40 0 12,st 2 40 39] [6,9,11,12]
(Sn [
ld 41 5 11,mv 42 9,ld 43 5 12,⟨some 44,.call .fp 115 [(.t 41),(.t 42),(.t 43)],none⟩] [6,11]
(Sn [
ld 45 5 11,st 5 6 45,ic 7 0] [6,7]
.ret))))))))),
[.cell 6 (some 5),.tmp 7]⟩
theorem x76_ok:ck x76 76:=by decide+kernel
def x77:XFunc:=⟨3,
(Sn [
bx 3 0,bx 4 1,bx 5 2,Al 6 z1,Al 7 z7,
ic 8 0] [3,4,5,6,7]
(.seq
(Ss [0,1,0,7,15,31] [
ld 15 5 3,p1 16 31 15,ld 17 2 4,p1 18 29 17,⟨some 19,.mm true (.t 16) [(.t 18)],none⟩,mv 9 19] [3,4,5,6,7,9]
(Sn [
mv 20 9,bc 21 .neq 20 0] [3,4,5,6,7,9,21]
(Cd 21
(Sn [
Bu 22 z1 [],Bu 23 z7 [],mv 24 9,st 5 6 22,st 2 7 23,
mv 8 24] [6,7,8]
.ret)
.skip)))
(.seq
(Sn [
ln 25 5,bc 26 .lss 25 0,mv 27 26,Gf 27 (ln 28 5),Gf 27 (bc 29 .gtr 28 1000000),por 30 27 29] [3,4,5,6,7,30]
(Cd 30
(Sn [
Bu 31 z1 [],Bu 32 z7 [],st 5 6 31,st 2 7 32,
ic 8 2] [6,7,8]
.ret)
.skip))
(.seq
(Sn [
fa 33 3 3,ln 34 33,⟨some 35,.mkf 117 [] [(.t 5)],none⟩,p2 36 116 34 35] [3,4,5,6,7,36]
(Cd 36
(Sn [
Bu 37 z1 [],Bu 38 z7 [],st 5 6 37,st 2 7 38,
ic 8 14] [6,7,8]
.ret)
.skip))
(Sn [
fa 40 0 3,ld 41 3 40,p1 42 118 41,mv 39 42,ex 43 0 39,ex 44 1 39,ex 45 2 39,Al 10 z3,
Al 11 z7,st 3 10 43,st 2 11 44,mv 12 45] [3,4,5,6,7,10,11,12]
(.seq
(Sn [
mv 46 12,bc 47 .neq 46 0] [3,4,5,6,7,10,11,12,47]
(Cd 47
(Sn [
Bu 48 z1 [],Bu 49 z7 [],mv 50 12,st 5 6 48,st 2 7 49,
mv 8 50] [6,7,8]
.ret)
.skip))
(Sn [
ld 51 5 3,⟨some 52,.call .shr 114 [(.t 51)],none⟩,Al 13 z1,
st 5 13 52] [4,5,6,7,10,11,13]
(Sn [
ld 53 2 4,ln 54 5,ld 55 2 11,Bu 56 z2 [(0,2,(.t 53)),(2,1,(.t 54)),(3,2,(.t 55))],
Al 14 z2,st 5 14 56] [6,7,10,11,13,14]
(Ss [0,0,2,0,8,30,7,127,255,511] [
ld 57 3 10,fa 58 3 13,ln 59 58,ld 60 5 14,⟨some 61,.mkrow 5 1 z2 [(0,(.t 60))],none⟩,
ap 62 5 59 61,fa 63 0 13,st 3 63 57,fa 64 3 13,st 1 64 62] [6,7,11,13,14]
(Sn [
ld 65 5 13,fa 66 3 13,ln 67 66,le 68 67,bc 69 .sub 68 1,ld 70 5 14,⟨some 71,.call .fp 115 [(.t 65),(.t 69),(.t 70)],none⟩] [6,7,11,13]
(Ss [0,0,1,7,15] [
ld 72 5 13,ld 73 2 11,st 5 6 72,st 2 7 73,ic 8 0] [6,7,8]
.ret))))))))))),
[.cell 6 (some 5),.cell 7 (some 2),.tmp 8]⟩
theorem x77_ok:ck x77 77:=by decide+kernel
def x78:XFunc:=⟨2,
(Sn [
bx 2 0,bx 3 1,Al 4 z1,
Al 5 z2,ic 6 0] [2,3,4,5]
(Sn [
ld 10 5 2,ld 11 2 3,p2 12 113 10 11,mv 9 12,ex 13 0 9,ex 14 1 9,mv 7 13,mv 8 14] [2,4,5,7,8]
(.seq
(Sn [
mv 15 8,bc 16 .neq 15 0] [2,4,5,7,8,16]
(Cd 16
(Sn [
Bu 17 z1 [],
Bu 18 z2 [],mv 19 8,st 5 4 17,st 5 5 18,mv 6 19] [4,5,6]
.ret)
.skip))
(Sn [
ld 20 5 2,mv 21 7,p2 22 119 20 21,ex 23 0 22,ex 24 1 22,ex 25 2 22,st 5 4 23,st 5 5 24,mv 6 25] [4,5,6]
.ret)))),
[.cell 4 (some 5),.cell 5 (some 5),.tmp 6]⟩
theorem x78_ok:ck x78 78:=by decide+kernel
def x79:XFunc:=⟨2,
(Sn [
ic 4 0] [0,1]
(.seq
(Sn [
mv 6 0,le 7 6,ic 8 0] [0,1,7,8]
(.block 0
(.loop [(0,none),(1,none),(7,none),(8,none)]
(Sn [
bt 9 .lss 8 7] [0,1,7,8,9]
(.seq
(Cd 9
.skip
(.exit 0))
(.seq
(.block 1
(Sn [
mv 10 8,mv 5 10] [0,1,5,7,8]
(Sn [
mv 11 1,mv 12 0,mv 13 5,ia 14 3 12 13,ld 15 3 14,⟨some 16,.callv (.t 11) [(.t 15)],none⟩] [0,1,5,7,8,16]
(Cd 16
(Sn [
mv 17 5,mv 4 17] [4]
.ret)
.skip))))
(Rn [
bc 18 .add 8 1,mv 8 18] [0,1,7,8])))))))
(Sn [
ic 4 (-1)] [4]
.ret))),
[.tmp 4]⟩
theorem x79_ok:ck x79 79:=by decide+kernel
def x80:XFunc:=⟨1,
(Sn [
Al 2 z0,
ic 3 0,ic 4 0] [0,2]
(Sn [
Bu 5 z0 [],
mv 6 0,st 11 2 5,ic 3 0,mv 4 6] [2,3,4]
.ret)),
[.cell 2 (some 11),.tmp 3,.tmp 4]⟩
theorem x80_ok:ck x80 80:=by decide+kernel
def x81:XFunc:=⟨2,
(Sn [
bx 2 0,bx 3 1,Al 4 z6,ic 5 0,ic 6 0] [2,3,4]
(.seq
(Sn [
ld 9 2 2,p1 10 30 9,mv 7 10] [2,3,4,7]
(Sn [
mv 11 7,bc 12 .neq 11 0] [2,3,4,7,12]
(Cd 12
(Sn [
Bu 13 z6 [],mv 14 7,st 2 4 13,ic 5 0,mv 6 14] [4,5,6]
.ret)
.skip)))
(.seq
(Sn [
ld 15 2 3,p1 16 66 15,No 17 16] [2,3,4,17]
(Cd 17
(Sn [
Bu 18 z6 [],st 2 4 18,ic 5 0,ic 6 8] [4,5,6]
.ret)
.skip))
(.seq
(Sn [
fa 19 1 2,ln 20 19,⟨some 21,.mkf 120 [] [(.t 3)],none⟩,p2 22 39 20 21] [2,3,4,22]
(Cd 22
(Sn [
Bu 23 z6 [],st 2 4 23,ic 5 0,ic 6 14] [4,5,6]
.ret)
.skip))
(.seq
(Sn [
fa 24 1 2,ln 25 24,le 26 25,bc 27 .eql 26 200,mv 28 27,Gf 28 (fa 29 0 2),Gf 28 (ln 30 29),Gf 28 (bc 31 .eql 30 1000000),por 32 28 31] [2,3,4,32]
(Cd 32
(Sn [
Bu 33 z6 [],st 2 4 33,ic 5 0,ic 6 18] [4,5,6]
.ret)
.skip))
(Ss [0,1,3,0,8,0,56,120,255,511] [
fa 34 1 2,ln 35 34,p1 36 43 35,fa 37 0 2,ln 38 37,ld 39 2 3,Bu 40 z4 [(0,1,(.t 38)),(1,2,(.t 39))],
⟨some 41,.mkrow 3 1 z4 [(0,(.t 40))],none⟩,ap 42 3 36 41,mv 8 42] [2,4,8]
(Ss [0,1,3,0,15,0,32,31,255,511] [
fa 43 0 2,ln 44 43,bc 45 .add 44 1,mv 46 8,Bu 47 z6 [(0,1,(.t 45)),(1,1,(.t 46))],fa 48 0 2,ln 49 48,st 2 4 47,mv 5 49,
ic 6 0] [4,5,6]
.ret))))))),
[.cell 4 (some 2),.tmp 5,.tmp 6]⟩
theorem x81_ok:ck x81 81:=by decide+kernel
def x82:XFunc:=⟨2,
(Sn [
⟨some 4,.mov (.c (.int .u64 0)),none⟩] [0,1]
(.seq
(.block 0
(.loop [(0,none),(1,none)]
(.seq
(Sn [
mv 5 1,⟨some 6,.bin .neq (.t 5) (.c (.int .u64 0)),none⟩] [0,1,6]
(Cd 6
.skip
(.exit 0)))
(.block 1
(Rs [0,0,0,6,3,31] [
mv 7 1,mv 8 0,mv 9 1,bt 10 .rem 8 9,mv 0 7,mv 1 10] [0,1])))))
(Sn [
mv 11 0,mv 4 11] [4]
.ret))),
[.tmp 4]⟩
theorem x82_ok:ck x82 82:=by decide+kernel
def x83:XFunc:=⟨1,
(Sn [
⟨some 2,.mov (.c (.int .u64 0)),none⟩] [0]
(.seq
(Sn [
mv 3 0,bc 4 .lss 3 0] [0,4]
(Cd 4
(Sn [
mv 5 0,bc 6 .add 5 1,⟨some 7,.un .neg (.t 6),none⟩,⟨some 8,.conv .u64 (.t 7),none⟩,⟨some 9,.bin .add (.t 8) (.c (.int .u64 1)),none⟩,mv 2 9] [2]
.ret)
.skip))
(Sn [
mv 10 0,⟨some 11,.conv .u64 (.t 10),none⟩,mv 2 11] [2]
.ret))),
[.tmp 2]⟩
theorem x83_ok:ck x83 83:=by decide+kernel
def x84:XFunc:=⟨1,
(Sn [
bx 1 0,ic 2 0] [1]
(Sn [
fa 7 0 1,ln 8 7,le 9 8,mv 3 9] [1,3]
(.seq
(Sn [
mv 10 3,bc 11 .lss 10 1,mv 12 11,Gf 12 (mv 13 3),Gf 12 (bc 14 .gtr 13 200),por 15 12 14,mv 16 15,Gf 16 (fa 17 1 1),Gf 16 (ln 18 17),Gf 16 (le 19 18),
Gf 16 (mv 20 3),Gf 16 (bt 21 .neq 19 20),por 22 16 21,mv 23 22,Gf 23 (fa 24 2 1),Gf 23 (ln 25 24),Gf 23 (le 26 25),Gf 23 (mv 27 3),
Gf 23 (bt 28 .gtr 26 27),por 29 23 28] [1,3,29]
(Cd 29
(Sn [
ic 2 8] [2]
.ret)
.skip))
(Sn [
mv 30 3,⟨some 31,.mks 1 [.bool false] (.t 30) (.t 30),none⟩,mv 4 31] [1,3,4]
(.seq
(Sn [
ic 5 0] [1,3,4,5]
(.block 0
(.loop [(1,none),(3,none),(4,none),(5,none)]
(.seq
(Sn [
mv 32 5,fa 33 2 1,ln 34 33,le 35 34,bt 36 .lss 32 35] [1,3,4,5,36]
(Cd 36
.skip
(.exit 0)))
(.seq
(.block 1
(.seq
(Sn [
fa 39 2 1,ln 40 39,mv 41 5,ia 42 1 40 41,ln 43 42,bc 44 .lss 43 0,mv 45 44,Gf 45 (fa 46 2 1),Gf 45 (ln 47 46),Gf 45 (mv 48 5),Gf 45 (ia 49 1 47 48),
Gf 45 (ln 50 49),Gf 45 (mv 51 3),Gf 45 (bt 52 .geq 50 51),por 53 45 52,mv 54 53,Gf 54 (mv 55 4),Gf 54 (fa 56 2 1),Gf 54 (ln 57 56),Gf 54 (mv 58 5),
Gf 54 (ia 59 1 57 58),Gf 54 (ln 60 59),Gf 54 (ia 61 1 55 60),Gf 54 (ln 62 61),por 63 54 62] [1,3,4,5,63]
(Cd 63
(Sn [
ic 2 8] [2]
.ret)
.skip))
(Rn [
mv 64 4,fa 65 2 1,ln 66 65,mv 67 5,ia 68 1 66 67,ln 69 68,ia 70 1 64 69,⟨none,.store 1 (.t 70) (.c (.bool true)),none⟩] [1,3,4,5])))
(Rn [
mv 37 5,bc 38 .add 37 1,mv 5 38] [1,3,4,5]))))))
(.seq
(Sn [
ic 6 0] [1,3,4,6]
(.block 2
(.loop [(1,none),(3,none),(4,none),(6,none)]
(.seq
(Sn [
mv 71 6,mv 72 3,bt 73 .lss 71 72] [1,3,4,6,73]
(Cd 73
.skip
(.exit 2)))
(.seq
(.block 3
(Ss [0,1,0,7,15,31,63,127,255,127,1023,2047,4095,8191,16383,32767,65535,32767,262143,524287,32767,32767,3178495,7372799,16777215,33554431,67108863,134217727,268435455,134217727,1073741823,2147483647,4294967295,8589934591,17179869183,8589934591,68719476735,137438953471,274877906943,549755813887,1099511627775] [
fa 76 0 1,ln 77 76,mv 78 6,ia 79 1 77 78,ln 80 79,bc 81 .lss 80 0,mv 82 81,Gf 82 (fa 83 0 1),Gf 82 (ln 84 83),Gf 82 (mv 85 6),Gf 82 (ia 86 1 84 85),
Gf 82 (ln 87 86),Gf 82 (bc 88 .gtr 87 1000000),por 89 82 88,mv 90 89,Gf 90 (fa 91 1 1),Gf 90 (ln 92 91),Gf 90 (mv 93 6),Gf 90 (ia 94 1 92 93),
Gf 90 (ln 95 94),Gf 90 (mv 96 4),Gf 90 (mv 97 6),Gf 90 (ia 98 1 96 97),Gf 90 (ln 99 98),Gf 90 (⟨some 100,.binb false (.t 95) (.t 99),none⟩),
por 101 90 100,mv 102 101,Gf 102 (fa 103 1 1),Gf 102 (ln 104 103),Gf 102 (mv 105 6),Gf 102 (ia 106 1 104 105),Gf 102 (ln 107 106),Gf 102 (mv 108 107),
Gt 108 (fa 109 0 1),Gt 108 (ln 110 109),Gt 108 (mv 111 6),Gt 108 (ia 112 1 110 111),Gt 108 (ln 113 112),Gt 108 (bc 114 .lss 113 1),
Gf 102 (pan 115 108 114),por 116 102 115] [1,3,4,6,116]
(Cd 116
(Sn [
ic 2 8] [2]
.ret)
.skip)))
(Rn [
mv 74 6,bc 75 .add 74 1,mv 6 75] [1,3,4,6]))))))
(Sn [
ic 2 0] [2]
.ret))))))),
[.tmp 2]⟩
theorem x84_ok:ck x84 84:=by decide+kernel
def x85:XFunc:=⟨1,
(Sn [
bx 1 0,Fl 2] [1]
(Sn [
fa 6 0 1,fa 7 0 6,ln 8 7,le 9 8,mv 3 9] [1,3]
(.seq
(Sn [
fa 10 4 1,ln 11 10,le 12 11,mv 13 3,bt 14 .neq 12 13,mv 15 14,Gf 15 (fa 16 3 1),Gf 15 (ln 17 16),Gf 15 (le 18 17),Gf 15 (mv 19 3),Gf 15 (fa 20 0 1),
Gf 15 (fa 21 2 20),Gf 15 (ln 22 21),Gf 15 (le 23 22),Gf 15 (bt 24 .sub 19 23),Gf 15 (bt 25 .neq 18 24),por 26 15 25] [1,3,26]
(Cd 26
(Sn [
Fl 2] [2]
.ret)
.skip))
(.seq
(Sn [
ic 4 0] [1,3,4]
(.block 0
(.loop [(1,none),(3,none),(4,none)]
(.seq
(Sn [
mv 27 4,mv 28 3,bt 29 .lss 27 28] [1,3,4,29]
(Cd 29
.skip
(.exit 0)))
(.seq
(.block 1
(.seq
(Sn [
fa 32 0 1,fa 33 1 32,ln 34 33,mv 35 4,ia 36 1 34 35,ln 37 36,No 38 37] [1,3,4,38]
(Cd 38
(.seq
(Sn [
fa 39 4 1,ln 40 39,mv 41 4,ia 42 1 40 41,ln 43 42,bc 44 .neq 43 (-1)] [1,3,4,44]
(Cd 44
(Sn [
Fl 2] [2]
.ret)
.skip))
(.exit 1))
.skip))
(Sn [
fa 45 4 1,ln 46 45,mv 47 4,ia 48 1 46 47,ln 49 48,mv 5 49] [1,3,4,5]
(Ss [0,1,3,7,7,23,55,127,255,511,1023,2047,1023,8191,16383,32767,65535,1023,262143,524287,1048575,2097151,4194303,2097151,10485759,2097151,60817407,127926271,262143999,536870911,1073741823,2147483647] [
mv 50 5,bc 51 .lss 50 0,mv 52 51,Gf 52 (mv 53 5),Gf 52 (fa 54 3 1),Gf 52 (ln 55 54),Gf 52 (le 56 55),Gf 52 (bt 57 .geq 53 56),por 58 52 57,mv 59 58,
Gf 59 (fa 60 3 1),Gf 59 (ln 61 60),Gf 59 (mv 62 5),Gf 59 (ia 63 5 61 62),Gf 59 (fa 64 3 63),Gf 59 (fa 65 0 64),Gf 59 (ln 66 65),Gf 59 (mv 67 4),
Gf 59 (bt 68 .neq 66 67),por 69 59 68,mv 70 69,Gf 70 (fa 71 0 1),Gf 70 (ld 72 3 71),Gf 70 (fa 73 3 1),Gf 70 (ln 74 73),Gf 70 (mv 75 5),
Gf 70 (ia 76 5 74 75),Gf 70 (fa 77 3 76),Gf 70 (ld 78 2 77),Gf 70 (p2 79 88 72 78),Gf 70 (No 80 79),por 81 70 80] [1,3,4,81]
(Cd 81
(Sn [
Fl 2] [2]
.ret)
.skip)))))
(Rn [
mv 30 4,bc 31 .add 30 1,mv 4 31] [1,3,4]))))))
(Sn [
Tr 2] [2]
.ret))))),
[.tmp 2]⟩
theorem x85_ok:ck x85 85:=by decide+kernel
def x86:XFunc:=⟨2,
(Sn [
bx 2 0,bx 3 1,Fl 4] [2,3]
(Sn [
fa 6 0 2,ld 7 2 6,fa 8 0 3,ld 9 2 8,p2 10 121 7 9,mv 5 10] [2,3,5]
(Sn [
mv 11 5,bc 12 .lss 11 0,mv 13 12,Gf 13 (mv 14 5),Gf 13 (bc 15 .eql 14 0),Gf 13 (mv 16 15),Gt 16 (fa 17 2 2),Gt 16 (ln 18 17),Gt 16 (fa 19 2 3),
Gt 16 (ln 20 19),Gt 16 (bt 21 .lss 18 20),Gf 13 (pan 22 16 21),por 23 13 22,mv 4 23] [4]
.ret))),
[.tmp 4]⟩
theorem x86_ok:ck x86 86:=by decide+kernel
def x87:XFunc:=⟨3,
(Sn [
bx 3 0,bx 4 1,bx 5 2,Al 6 z7,Fl 7] [3,4,5,6]
(.seq
(Sn [
ld 8 3 4,ld 9 3 3,ld 10 2 5,p3 11 122 8 9 10] [3,4,5,6,11]
(Cd 11
(Sn [
ld 12 2 5,st 2 6 12,Tr 7] [6,7]
.ret)
.skip))
(.seq
(Sn [
fa 13 2 4,ln 14 13,fa 15 2 3,ln 16 15,bt 17 .gtr 14 16] [3,4,6,17]
(Cd 17
(Sn [
ld 18 3 3,ld 19 3 4,p2 20 123 18 19,st 2 6 20,Tr 7] [6,7]
.ret)
.skip))
(Sn [
Bu 21 z7 [],st 2 6 21,Fl 7] [6,7]
.ret)))),
[.cell 6 (some 2),.tmp 7]⟩
theorem x87_ok:ck x87 87:=by decide+kernel
end Go.Proofs.YtjikemfbommnlaaGreat
