/- Functions of the seat as the logical machine runs them, and the look at each of them (1). Printed by a program. -/
import Derived.Test.YtmlghnibpjlchaaGreatBVm2
import Derived.Test.YtmlghnibpjlchaaGreatProg
set_option maxRecDepth 100000
namespace Go.Proofs.YtmlghnibpjlchaaGreat
open Go.Vm
abbrev mv (d s:Nat):aY:=⟨some d,.mov (.t s),none⟩
abbrev ic (d:Nat) (n:Int):aY:=⟨some d,.mov (.c (.int .i64 n)),none⟩
abbrev ld (d a s:Nat):aY:=⟨some d,.load (some a) (.t s),none⟩
abbrev ln (d s:Nat):aY:=⟨some d,.load none (.t s),none⟩
abbrev fa (d o s:Nat):aY:=⟨some d,.fadr o (.t s),none⟩
abbrev st (z p s:Nat):aY:=⟨none,.store z (.t p) (.t s),none⟩
abbrev ex (d i s:Nat):aY:=⟨some d,.ext i (.t s),none⟩
abbrev bx (d s:Nat):aY:=⟨some d,.box (.t s),none⟩
abbrev le (d s:Nat):aY:=⟨some d,.len (.t s),none⟩
abbrev ia (d z s i:Nat):aY:=⟨some d,.iadr z (.t s) (.t i),none⟩
abbrev bt (d:Nat) (o:BinOp) (a b:Nat):aY:=⟨some d,.bin o (.t a) (.t b),none⟩
abbrev bc (d:Nat) (o:BinOp) (a:Nat) (n:Int):aY:=⟨some d,.bin o (.t a) (.c (.int .i64 n)),none⟩
abbrev ap (d z a b:Nat):aY:=⟨some d,.append z (.t a) (.t b),none⟩
abbrev fH (d a b:Nat):aY:=⟨some d,.pick (.t a) (.c (.bool true)) (.t b),none⟩
abbrev rP (d a b:Nat):aY:=⟨some d,.pick (.t a) (.t b) (.c (.bool false)),none⟩
abbrev p1 (d f a:Nat):aY:=⟨some d,.call .pur f [(.t a)],none⟩
abbrev p2 (d f a b:Nat):aY:=⟨some d,.call .pur f [(.t a),(.t b)],none⟩
abbrev p3 (d f a b c:Nat):aY:=⟨some d,.call .pur f [(.t a),(.t b),(.t c)],none⟩
abbrev p4 (d f a b c e:Nat):aY:=⟨some d,.call .pur f [(.t a),(.t b),(.t c),(.t e)],none⟩
abbrev Fl (d:Nat):aY:=⟨some d,.mov (.c (.bool false)),none⟩
abbrev Tr (d:Nat):aY:=⟨some d,.mov (.c (.bool true)),none⟩
abbrev Al (d:Nat) (z:List PV):aY:=⟨some d,.alloc z,none⟩
abbrev Bu (d:Nat) (z:List PV) (l:List (Nat×Nat×eO)):aY:=⟨some d,.build z l,none⟩
abbrev No (d s:Nat):aY:=⟨some d,.un .not (.t s),none⟩
abbrev Gf (c:Nat) (o:aY):aY:=⟨o.dst,o.op,some (c,false)⟩
abbrev Gt (c:Nat) (o:aY):aY:=⟨o.dst,o.op,some (c,true)⟩
abbrev Rn (l:List aY) (k:List Nat):fT:= .region none l k
abbrev Rs (r:List Nat) (l:List aY) (k:List Nat):fT:= .region (some r) l k
abbrev Sn (l:List aY) (k:List Nat) (c:fT):fT:= .seq (.region none l k) c
abbrev Ss (r:List Nat) (l:List aY) (k:List Nat) (c:fT):fT:= .seq (.region (some r) l k) c
abbrev Cd (t:Nat) (a b:fT):fT:= .cond (.t t) a b
abbrev z0:List PV:=[.int .i64 0,.int .i64 0,.sl 3 true [],.int .i64 0,.sl 3 true [],.sl 1 true [],.sl 1 true [],.sl 1 true [],.sl 5 true [],.sl 1 true [],.sl 3 true [],.sl 1 true []]
abbrev z1:List PV:=[.int .i64 0,.int .i64 0,.sl 3 true [],.int .i64 0,.sl 3 true [],.sl 1 true [],.sl 1 true [],.sl 1 true [],.sl 5 true [],.sl 1 true [],.sl 3 true []]
abbrev z2:List PV:=[.sl 1 true [],.sl 1 true [],.sl 1 true [],.sl 5 true [],.sl 1 true []]
abbrev z3:List PV:=[.int .i64 0,.int .i64 0,.int .i64 0,.int .i64 0,.int .i64 0]
abbrev z4:List PV:=[.sl 1 true [],.sl 1 true [],.sl 1 true []]
abbrev z5:List PV:=[.int .i64 0,.int .i64 0,.int .i64 0]
abbrev z6:List PV:=[.bool false,.int .u64 0,.int .u64 0]
abbrev z7:List PV:=[.int .i64 0,.sl 3 true []]
abbrev z8:List PV:=[.int .i64 0,.int .i64 0]
abbrev z9:List PV:=[.int .i64 0,.int .u64 0]
abbrev ck (x:aI) (n:Nat):Prop:=C5 Go.Proofs.Tryz.prog (fun _=>true) x n=true
def x5:aI:=⟨3,
(Sn [
bx 3 0,bx 4 1,bx 5 2,Fl 6] [3,4,5]
(.seq
(Sn [
ld 23 1 3,p1 24 16 23,mv 25 24,Gf 25 (ld 26 12 5),Gf 25 (p1 27 7 26),fH 28 25 27] [3,4,5,28]
(Cd 28
(Sn [
Tr 6] [6]
.ret)
.skip))
(Sn [
ld 30 1 3,ld 31 2 4,p2 32 17 30 31,mv 29 32,ex 33 0 29,ex 34 1 29,
Al 7 z0,
st 12 7 33,mv 8 34] [3,4,5,7,8]
(Sn [
ld 36 1 3,ld 37 2 4,p2 38 18 36 37,mv 35 38,ex 39 0 35,ex 40 1 35,
Al 9 z0,
st 12 9 39,mv 10 40] [5,7,8,9,10]
(Sn [
ld 42 12 5,p1 43 19 42,mv 41 43,ex 44 0 41,ex 45 1 41,mv 11 44,mv 12 45] [5,7,8,9,10,11,12]
(Sn [
ld 47 12 5,p1 48 20 47,mv 46 48,ex 49 0 46,ex 50 1 46,mv 13 49,mv 14 50] [5,7,8,9,10,11,12,13,14]
(Sn [
ld 52 12 5,p1 53 21 52,mv 51 53,ex 54 0 51,ex 55 1 51,mv 15 54,mv 16 55] [5,7,8,9,10,11,12,13,14,15,16]
(Sn [
ld 57 12 5,p1 58 22 57,mv 56 58,ex 59 0 56,ex 60 1 56,mv 17 59,mv 18 60] [5,7,8,9,10,11,12,13,14,15,16,17,18]
(Sn [
ld 62 12 5,p1 63 23 62,mv 61 63,ex 64 0 61,ex 65 1 61,Al 19 z3,st 5 19 64,
mv 20 65] [5,7,8,9,10,11,12,13,14,15,16,17,18,19,20]
(Sn [
ld 67 12 5,p1 68 24 67,mv 66 68,ex 69 0 66,ex 70 1 66,Al 21 z3,st 5 21 69,
mv 22 70] [5,7,8,9,10,11,12,13,14,15,16,17,18,19,20,21,22]
(Ss [0,0,3,7,15,15,63,127,255,511,1023,511,4095,8191,16383,32767,65535,65535,262143,524287,1048575,2097151,2097151,8388607,16777215,33554431,67108863,67108863,268435455,536870911,1073741823,2147483647,2147483647,8589934591,17179869183,34359738367,68719476735,68719476735,274877906943,549755813887,1099511627775,2199023255551,2199023255551,8796093022207,17592186044415,35184372088831] [
ld 71 12 7,ld 72 12 9,p2 73 12 71 72,mv 74 73,Gt 74 (mv 75 8),Gt 74 (mv 76 10),Gt 74 (bt 77 .eql 75 76),rP 78 74 77,mv 79 78,Gt 79 (ld 80 12 5),
Gt 79 (p1 81 25 80),Gt 79 (ld 82 12 5),Gt 79 (p1 83 26 82),Gt 79 (bt 84 .eql 81 83),rP 85 79 84,mv 86 85,Gt 86 (mv 87 11),Gt 86 (mv 88 13),
Gt 86 (p2 89 13 87 88),rP 90 86 89,mv 91 90,Gt 91 (mv 92 12),Gt 91 (mv 93 14),Gt 91 (bt 94 .eql 92 93),rP 95 91 94,mv 96 95,Gt 96 (mv 97 15),
Gt 96 (mv 98 17),Gt 96 (bt 99 .eql 97 98),rP 100 96 99,mv 101 100,Gt 101 (mv 102 16),Gt 101 (mv 103 18),Gt 101 (bt 104 .eql 102 103),rP 105 101 104,
mv 106 105,Gt 106 (ld 107 5 19),Gt 106 (ld 108 5 21),Gt 106 (⟨some 109,.eqc 5 false (.t 107) (.t 108),none⟩),rP 110 106 109,mv 111 110,
Gt 111 (mv 112 20),Gt 111 (mv 113 22),Gt 111 (bt 114 .eql 112 113),rP 115 111 114,mv 6 115] [6]
.ret))))))))))),
[.tmp 6]⟩
theorem aLW:ck x5 5:=by decide+kernel
def x7:aI:=⟨1,
(Sn [
bx 1 0,Fl 2] [1]
(Sn [
fa 3 0 1,ld 4 11 3,p1 5 31 4,mv 6 5,Gf 6 (fa 7 11 1),Gf 6 (ln 8 7),Gf 6 (le 9 8),Gf 6 (bc 10 .gtr 9 70),fH 11 6 10,mv 2 11] [2]
.ret)),
[.tmp 2]⟩
theorem aLX:ck x7 7:=by decide+kernel
def x12:aI:=⟨2,
(Sn [
bx 2 0,bx 3 1,Fl 4] [2,3]
(Sn [
fa 5 0 2,ld 6 11 5,fa 7 0 3,ld 8 11 7,p2 9 40 6 8,mv 10 9,Gt 10 (fa 11 11 2),Gt 10 (ln 12 11),Gt 10 (fa 13 11 3),Gt 10 (ln 14 13),
Gt 10 (p2 15 41 12 14),rP 16 10 15,mv 4 16] [4]
.ret)),
[.tmp 4]⟩
theorem aGK:ck x12 12:=by decide+kernel
def x13:aI:=⟨2,
(Sn [
Fl 4] [0,1]
(.seq
(Sn [
mv 6 0,le 7 6,mv 8 1,le 9 8,bt 10 .neq 7 9] [0,1,10]
(Cd 10
(Sn [
Fl 4] [4]
.ret)
.skip))
(.seq
(Sn [
ic 5 0] [0,1,5]
(.block 0
(.loop [(0,none),(1,none),(5,none)]
(.seq
(Sn [
mv 11 5,mv 12 0,le 13 12,bt 14 .lss 11 13] [0,1,5,14]
(Cd 14
.skip
(.exit 0)))
(.seq
(.block 1
(Ss [0,0,3,7,0,0,48,112,255] [
mv 17 0,mv 18 5,ia 19 2 17 18,ld 20 2 19,mv 21 1,mv 22 5,ia 23 2 21 22,ld 24 2 23,⟨some 25,.eqc 2 true (.t 20) (.t 24),none⟩] [0,1,5,25]
(Cd 25
(Sn [
Fl 4] [4]
.ret)
.skip)))
(Rn [
mv 15 5,bc 16 .add 15 1,mv 5 16] [0,1,5]))))))
(Sn [
Tr 4] [4]
.ret)))),
[.tmp 4]⟩
theorem aGL:ck x13 13:=by decide+kernel
def x16:aI:=⟨1,
(Sn [
bx 1 0,Fl 2] [1]
(Sn [
fa 3 0 1,ln 4 3,le 5 4,bc 6 .gtr 5 16,mv 7 6,Gt 7 (fa 8 0 1),Gt 7 (ln 9 8),Gt 7 (le 10 9),Gt 7 (bc 11 .lss 10 64),rP 12 7 11,mv 13 12,
Gf 13 (fa 14 0 1),Gf 13 (ln 15 14),Gf 13 (le 16 15),Gf 13 (bc 17 .gtr 16 70),fH 18 13 17,mv 2 18] [2]
.ret)),
[.tmp 2]⟩
theorem aGM:ck x16 16:=by decide+kernel
def x17:aI:=⟨2,
(Sn [
bx 2 0,bx 3 1,
Al 4 z0,
ic 5 0] [2,3,4]
(Sn [
ld 12 1 2,ld 13 2 3,p2 14 50 12 13,mv 11 14,ex 15 0 11,ex 16 1 11,
Al 6 z1,
st 11 6 15,mv 7 16] [2,3,4,6,7]
(.seq
(Sn [
mv 17 7,bc 18 .neq 17 0] [2,3,4,6,7,18]
(Cd 18
(Sn [
Bu 19 z0 [],
mv 20 7,st 12 4 19,mv 5 20] [4,5]
.ret)
.skip))
(Sn [
Al 8 z0] [2,3,4,6,8]
(.seq
(Sn [
fa 21 0 2,ln 22 21,le 23 22,ic 24 0] [2,3,4,6,8,22,23,24]
(.block 0
(.loop [(2,none),(3,none),(4,none),(6,none),(8,none),(22,none),(23,none),(24,none),(8,some 12001)]
(Sn [
bt 25 .lss 24 23] [2,3,4,6,8,22,23,24,25]
(.seq
(Cd 25
.skip
(.exit 0))
(.seq
(.block 1
(Sn [
mv 26 24,ia 27 3 22 24,ld 28 3 27,Al 10 z5,mv 9 26,st 3 10 28] [2,3,4,6,8,9,10,22,23,24]
(Sn [
fa 29 11 8,ln 30 29,fa 31 0 10,ln 32 31,⟨some 33,.mkrow 1 1 [.int .i64 0] [(0,(.t 32))],none⟩,ap 34 1 30 33,fa 35 11 8,
st 1 35 34] [2,3,4,6,8,9,22,23,24]
(Rn [
ld 36 1 2,ld 37 2 3,fa 38 11 8,ln 39 38,mv 40 9,⟨some 41,.call .fp 51 [(.t 36),(.t 37),(.t 39),(.t 40)],none⟩] [2,3,4,6,8,22,23,24]))))
(Rn [
bc 42 .add 24 1,mv 24 42] [2,3,4,6,8,22,23,24])))))))
(Ss [0,0,0,4,12,31,63,127,127,255,767,2047] [
ld 44 11 6,ld 45 1 2,fa 46 11 8,ln 47 46,p1 48 53 47,p3 49 52 44 45 48,mv 43 49,ex 50 0 43,ex 51 1 43,fa 52 0 8,st 11 52 50,mv 7 51] [4,7,8]
(Sn [
ld 53 12 8,mv 54 7,st 12 4 53,mv 5 54] [4,5]
.ret))))))),
[.cell 4 (some 12),.tmp 5]⟩
theorem aGN:ck x17 17:=by decide+kernel
def x18:aI:=⟨2,
(Sn [
bx 2 0,bx 3 1,
Al 4 z0,
ic 5 0] [2,3,4]
(.seq
(Sn [
ld 6 1 2,p1 7 54 6,bc 8 .neq 7 0] [2,3,4,8]
(Cd 8
(Sn [
Bu 9 z0 [],
ld 10 1 2,p1 11 54 10,st 12 4 9,mv 5 11] [4,5]
.ret)
.skip))
(.seq
(Sn [
ld 12 2 3,p1 13 55 12,bc 14 .neq 13 0] [2,3,4,14]
(Cd 14
(Sn [
Bu 15 z0 [],
st 12 4 15,ic 5 8] [4,5]
.ret)
.skip))
(Sn [
ld 16 1 2,ld 17 2 3,p2 18 56 16 17,st 12 4 18,ic 5 0] [4,5]
.ret)))),
[.cell 4 (some 12),.tmp 5]⟩
theorem aGO:ck x18 18:=by decide+kernel
def x19:aI:=⟨1,
(Sn [
bx 1 0,⟨some 2,.mov (.c (.sl 2 true [])),none⟩,ic 3 0] [1]
(.seq
(Sn [
ld 5 12 1,p1 6 25 5,mv 4 6] [1,4]
(Sn [
mv 7 4,bc 8 .neq 7 0] [1,4,8]
(Cd 8
(Sn [
mv 9 4,⟨some 2,.mov (.c (.sl 2 true [])),none⟩,mv 3 9] [2,3]
.ret)
.skip)))
(Sn [
fa 10 11 1,ln 11 10,p1 12 53 11,mv 2 12,ic 3 0] [2,3]
.ret))),
[.tmp 2,.tmp 3]⟩
theorem aGP:ck x19 19:=by decide+kernel
def x20:aI:=⟨1,
(Sn [
bx 1 0,⟨some 2,.mov (.c (.sl 2 true [])),none⟩,ic 3 0] [1]
(.seq
(Sn [
ld 4 12 1,p1 5 26 4,bc 6 .neq 5 0] [1,6]
(Cd 6
(Sn [
ld 7 12 1,p1 8 26 7,⟨some 2,.mov (.c (.sl 2 true [])),none⟩,mv 3 8] [2,3]
.ret)
.skip))
(Sn [
fa 9 11 1,ln 10 9,⟨some 11,.call .own 57 [(.t 10)],none⟩,mv 2 11,ic 3 0] [2,3]
.ret))),
[.tmp 2,.tmp 3]⟩
theorem aGQ:ck x20 20:=by decide+kernel
def x21:aI:=⟨1,
(Sn [
bx 1 0,ic 2 0,ic 3 0] [1]
(.seq
(Sn [
ld 5 12 1,p1 6 25 5,mv 4 6] [1,4]
(Sn [
mv 7 4,bc 8 .neq 7 0] [1,4,8]
(Cd 8
(Sn [
mv 9 4,ic 2 0,mv 3 9] [2,3]
.ret)
.skip)))
(.seq
(Sn [
fa 10 11 1,ln 11 10,le 12 11,bc 13 .eql 12 0] [1,13]
(Cd 13
(Sn [
ic 2 0,ic 3 42] [2,3]
.ret)
.skip))
(Sn [
fa 14 11 1,ln 15 14,⟨some 16,.iadr 1 (.t 15) (.c (.int .i64 0)),none⟩,ln 17 16,mv 2 17,ic 3 0] [2,3]
.ret)))),
[.tmp 2,.tmp 3]⟩
theorem aGR:ck x21 21:=by decide+kernel
def x22:aI:=⟨1,
(Sn [
bx 1 0,ic 2 0,ic 3 0] [1]
(.seq
(Sn [
ld 4 12 1,p1 5 26 4,bc 6 .neq 5 0] [1,6]
(Cd 6
(Sn [
ld 7 12 1,p1 8 26 7,ic 2 0,mv 3 8] [2,3]
.ret)
.skip))
(.seq
(Sn [
fa 9 11 1,ln 10 9,le 11 10,bc 12 .eql 11 0] [1,12]
(Cd 12
(Sn [
ic 2 0,ic 3 42] [2,3]
.ret)
.skip))
(Sn [
fa 13 11 1,ln 14 13,⟨some 15,.iadr 1 (.t 14) (.c (.int .i64 0)),none⟩,ln 16 15,mv 2 16,ic 3 0] [2,3]
.ret)))),
[.tmp 2,.tmp 3]⟩
theorem aGS:ck x22 22:=by decide+kernel
def x23:aI:=⟨1,
(Sn [
bx 1 0,Al 2 z3,ic 3 0] [1,2]
(.seq
(Sn [
ld 5 12 1,p1 6 25 5,mv 4 6] [1,2,4]
(Sn [
mv 7 4,bc 8 .neq 7 0] [1,2,4,8]
(Cd 8
(Sn [
Bu 9 z3 [],mv 10 4,st 5 2 9,mv 3 10] [2,3]
.ret)
.skip)))
(Sn [
fa 11 0 1,ld 12 11 11,p1 13 58 12,ex 14 0 13,ex 15 1 13,st 5 2 14,mv 3 15] [2,3]
.ret))),
[.cell 2 (some 5),.tmp 3]⟩
theorem aGT:ck x23 23:=by decide+kernel
def x24:aI:=⟨1,
(Sn [
bx 1 0,Al 2 z3,ic 3 0] [1,2]
(.seq
(Sn [
ld 4 12 1,p1 5 26 4,bc 6 .neq 5 0] [1,2,6]
(Cd 6
(Sn [
Bu 7 z3 [],ld 8 12 1,p1 9 26 8,st 5 2 7,mv 3 9] [2,3]
.ret)
.skip))
(.seq
(Sn [
fa 10 0 1,fa 11 5 10,fa 12 3 11,ln 13 12,le 14 13,bc 15 .eql 14 0] [1,2,15]
(Cd 15
(Sn [
Bu 16 z3 [],st 5 2 16,ic 3 42] [2,3]
.ret)
.skip))
(Sn [
fa 17 0 1,fa 18 5 17,fa 19 3 18,ln 20 19,⟨some 21,.iadr 5 (.t 20) (.c (.int .i64 0)),none⟩,ld 22 5 21,st 5 2 22,ic 3 0] [2,3]
.ret)))),
[.cell 2 (some 5),.tmp 3]⟩
theorem aGU:ck x24 24:=by decide+kernel
def x25:aI:=⟨1,
(Sn [
bx 1 0,ic 2 0] [1]
(.seq
(Sn [
fa 8 0 1,ld 9 11 8,p1 10 59 9,bc 11 .neq 10 0,mv 12 11,Gf 12 (fa 13 11 1),Gf 12 (ln 14 13),Gf 12 (le 15 14),Gf 12 (fa 16 0 1),Gf 12 (fa 17 2 16),
Gf 12 (fa 18 0 17),Gf 12 (ln 19 18),Gf 12 (le 20 19),Gf 12 (bt 21 .neq 15 20),fH 22 12 21] [1,22]
(Cd 22
(Sn [
ic 2 8] [2]
.ret)
.skip))
(.seq
(Sn [
fa 23 0 1,fa 24 2 23,fa 25 0 24,ln 26 25,le 27 26,ic 28 0] [1,26,27,28]
(.block 0
(.loop [(1,none),(26,none),(27,none),(28,none)]
(Sn [
bt 29 .lss 28 27] [1,26,27,28,29]
(.seq
(Cd 29
.skip
(.exit 0))
(.seq
(.block 1
(Sn [
ia 30 3 26 28,ld 31 3 30,Al 4 z5,st 3 4 31] [1,4,26,27,28]
(Sn [
fa 32 11 1,ln 33 32,fa 34 0 4,ln 35 34,p2 36 60 33 35,No 37 36] [1,26,27,28,37]
(Cd 37
(Sn [
ic 2 8] [2]
.ret)
.skip))))
(Rn [
bc 38 .add 28 1,mv 28 38] [1,26,27,28])))))))
(Sn [
fa 39 11 1,ln 40 39,p1 41 53 40,mv 5 41] [1,5]
(.seq
(Sn [
mv 42 5,le 43 42,fa 44 0 1,fa 45 3 44,fa 46 1 45,ln 47 46,le 48 47,bt 49 .neq 43 48] [1,5,49]
(Cd 49
(Sn [
ic 2 8] [2]
.ret)
.skip))
(.seq
(Sn [
fa 50 0 1,fa 51 3 50,fa 52 1 51,ln 53 52,le 54 53,ic 55 0] [1,5,53,54,55]
(.block 2
(.loop [(1,none),(5,none),(53,none),(54,none),(55,none)]
(Sn [
bt 56 .lss 55 54] [1,5,53,54,55,56]
(.seq
(Cd 56
.skip
(.exit 2))
(.seq
(.block 3
(Sn [
ia 57 3 53 55,ld 58 3 57,Al 7 z5,st 3 7 58] [1,5,7,53,54,55]
(Sn [
mv 59 5,fa 60 1 7,ld 61 2 60,p2 62 61 59 61,No 63 62,mv 64 63,Gf 64 (fa 65 0 1),Gf 64 (fa 66 2 65),Gf 64 (ld 67 1 66),Gf 64 (fa 68 0 1),
Gf 64 (fa 69 0 68),Gf 64 (ld 70 2 69),Gf 64 (fa 71 1 7),Gf 64 (fa 72 1 71),Gf 64 (ln 73 72),Gf 64 (fa 74 1 7),Gf 64 (fa 75 0 74),Gf 64 (ln 76 75),
Gf 64 (p4 77 62 67 70 73 76),Gf 64 (No 78 77),fH 79 64 78] [1,5,53,54,55,79]
(Cd 79
(Sn [
ic 2 8] [2]
.ret)
.skip))))
(Rn [
bc 80 .add 55 1,mv 55 80] [1,5,53,54,55])))))))
(Sn [
ic 2 0] [2]
.ret))))))),
[.tmp 2]⟩
theorem aGV:ck x25 25:=by decide+kernel
def x26:aI:=⟨1,
(Sn [
bx 1 0,ic 2 0] [1]
(.seq
(Sn [
fa 5 0 1,ld 6 11 5,p1 7 63 6,bc 8 .neq 7 0,mv 9 8,Gf 9 (fa 10 11 1),Gf 9 (ln 11 10),Gf 9 (le 12 11),Gf 9 (fa 13 0 1),Gf 9 (fa 14 2 13),
Gf 9 (fa 15 0 14),Gf 9 (ln 16 15),Gf 9 (le 17 16),Gf 9 (bt 18 .neq 12 17),fH 19 9 18] [1,19]
(Cd 19
(Sn [
ic 2 8] [2]
.ret)
.skip))
(.seq
(Sn [
ic 3 0] [1,3]
(.block 0
(.loop [(1,none),(3,none)]
(.seq
(Sn [
mv 20 3,fa 21 11 1,ln 22 21,le 23 22,bt 24 .lss 20 23] [1,3,24]
(Cd 24
.skip
(.exit 0)))
(.seq
(.block 1
(.seq
(Ss [0,1,3,0,8,0,56,120,255,511] [
fa 27 0 1,fa 28 2 27,ld 29 1 28,fa 30 11 1,ln 31 30,mv 32 3,ia 33 1 31 32,ln 34 33,p2 35 64 29 34,bc 36 .lss 35 0] [1,3,36]
(Cd 36
(Sn [
ic 2 8] [2]
.ret)
.skip))
(Sn [
ic 4 0] [1,3,4]
(.block 2
(.loop [(1,none),(3,none),(4,none)]
(.seq
(Sn [
mv 37 4,mv 38 3,bt 39 .lss 37 38] [1,3,4,39]
(Cd 39
.skip
(.exit 2)))
(.seq
(.block 3
(Ss [0,1,0,7,15,0,32,0,224,480,1023] [
fa 42 11 1,ln 43 42,mv 44 4,ia 45 1 43 44,ln 46 45,fa 47 11 1,ln 48 47,mv 49 3,ia 50 1 48 49,ln 51 50,bt 52 .eql 46 51] [1,3,4,52]
(Cd 52
(Sn [
ic 2 8] [2]
.ret)
.skip)))
(Rn [
mv 40 4,bc 41 .add 40 1,mv 4 41] [1,3,4]))))))))
(Rn [
mv 25 3,bc 26 .add 25 1,mv 3 26] [1,3]))))))
(.seq
(Ss [0,1,0,4,12,31,63] [
fa 53 0 1,ld 54 11 53,fa 55 11 1,ln 56 55,⟨some 57,.call .own 57 [(.t 56)],none⟩,p2 58 65 54 57,No 59 58] [59]
(Cd 59
(Sn [
ic 2 8] [2]
.ret)
.skip))
(Sn [
ic 2 0] [2]
.ret))))),
[.tmp 2]⟩
theorem aGW:ck x26 26:=by decide+kernel
def x31:aI:=⟨1,
(Sn [
bx 1 0,Fl 2] [1]
(Sn [
fa 3 3 1,fa 4 1 3,ln 5 4,le 6 5,bc 7 .gtr 6 40,mv 8 7,Gf 8 (fa 9 10 1),Gf 8 (ln 10 9),Gf 8 (le 11 10),Gf 8 (bc 12 .gtr 11 40),fH 13 8 12,mv 14 13,
Gf 14 (fa 15 2 1),Gf 14 (ld 16 1 15),Gf 14 (p1 17 16 16),fH 18 14 17,mv 19 18,Gf 19 (fa 20 5 1),Gf 19 (ld 21 5 20),Gf 19 (p1 22 71 21),fH 23 19 22,
mv 2 23] [2]
.ret)),
[.tmp 2]⟩
theorem aGX:ck x31 31:=by decide+kernel
def x32:aI:=⟨1,
(Sn [
bx 1 0,
Al 2 z1] [1,2]
(Ss [0,1,0,4,12,0,32,124,0,256,1020,0,0,4096,16380,32767,65535] [
fa 3 0 1,ld 4 2 3,fa 5 2 1,ld 6 1 5,⟨some 7,.call .own 72 [(.t 6)],none⟩,fa 8 3 1,ld 9 2 8,⟨some 10,.call .own 73 [(.t 9)],none⟩,fa 11 5 1,
ld 12 5 11,⟨some 13,.call .own 74 [(.t 12)],none⟩,⟨some 14,.mkrow 3 0 z5 [],none⟩,fa 15 10 1,ln 16 15,
ap 17 3 14 16,
Bu 18 z1 [(0,2,(.t 4)),(2,1,(.t 7)),(3,2,(.t 10)),(5,5,(.t 13)),(10,1,(.t 17))],
st 11 2 18] [2]
.ret)),
[.cell 2 (some 11)]⟩
theorem aGY:ck x32 32:=by decide+kernel
def x33:aI:=⟨1,
(Sn [
bx 1 0,ic 2 0] [1]
(.seq
(Ss [0,1,3,7,15,31,63,127,255,511,1023,2047,511,4607,12799,32767,65535,131071] [
fa 3 1 1,ln 4 3,bc 5 .lss 4 1,mv 6 5,Gf 6 (fa 7 0 1),Gf 6 (ln 8 7),Gf 6 (bc 9 .eql 8 (-9223372036854775808)),fH 10 6 9,mv 11 10,Gf 11 (fa 12 1 1),
Gf 11 (ln 13 12),Gf 11 (⟨some 14,.conv .u64 (.t 13),none⟩),Gf 11 (fa 15 0 1),Gf 11 (ln 16 15),Gf 11 (p1 17 76 16),Gf 11 (p2 18 75 14 17),
Gf 11 (⟨some 19,.bin .gtr (.t 18) (.c (.int .u64 1)),none⟩),fH 20 11 19] [20]
(Cd 20
(Sn [
ic 2 8] [2]
.ret)
.skip))
(Sn [
ic 2 0] [2]
.ret))),
[.tmp 2]⟩
theorem aGZ:ck x33 33:=by decide+kernel
def x34:aI:=⟨2,
(Sn [
bx 2 0,bx 3 1,ic 4 0,ic 5 0] [2,3]
(.seq
(Sn [
ld 8 2 2,ld 9 2 3,p2 10 77 8 9,mv 6 10] [2,3,6]
(Sn [
mv 11 6,bc 12 .neq 11 0] [2,3,6,12]
(Cd 12
(Sn [
mv 13 6,ic 4 0,mv 5 13] [4,5]
.ret)
.skip)))
(.seq
(Sn [
fa 14 0 2,ln 15 14,bc 16 .lss 15 0,fa 17 0 3,ln 18 17,bc 19 .lss 18 0,⟨some 20,.binb true (.t 16) (.t 19),none⟩] [2,3,20]
(Cd 20
(Sn [
fa 21 0 2,ln 22 21,fa 23 0 3,ln 24 23,p2 25 78 22 24,mv 4 25,ic 5 0] [4,5]
.ret)
.skip))
(Ss [0,1,0,4,15,0,32,0,128,511,1023,2047] [
fa 26 0 2,ln 27 26,fa 28 1 3,ln 29 28,p2 30 80 27 29,fa 31 0 3,ln 32 31,fa 33 1 2,ln 34 33,p2 35 80 32 34,p2 36 79 30 35,mv 7 36] [2,7]
(.seq
(Sn [
fa 37 0 2,ln 38 37,bc 39 .lss 38 0] [7,39]
(Cd 39
(Rn [
mv 40 7,⟨some 41,.un .neg (.t 40),none⟩,mv 7 41] [7])
.skip))
(Sn [
mv 42 7,mv 4 42,ic 5 0] [4,5]
.ret)))))),
[.tmp 4,.tmp 5]⟩
theorem aG0:ck x34 34:=by decide+kernel
def x40:aI:=⟨2,
(Sn [
bx 2 0,bx 3 1,Fl 4] [2,3]
(.seq
(Sn [
fa 6 0 2,ld 7 2 6,fa 8 0 3,ld 9 2 8,⟨some 10,.eqc 2 true (.t 7) (.t 9),none⟩,mv 11 10,Gf 11 (fa 12 2 2),Gf 11 (ld 13 1 12),Gf 11 (fa 14 2 3),
Gf 11 (ld 15 1 14),Gf 11 (p2 16 89 13 15),Gf 11 (No 17 16),fH 18 11 17,mv 19 18,Gf 19 (fa 20 3 2),Gf 19 (ld 21 2 20),Gf 19 (fa 22 3 3),
Gf 19 (ld 23 2 22),Gf 19 (p2 24 90 21 23),Gf 19 (No 25 24),fH 26 19 25,mv 27 26,Gf 27 (fa 28 5 2),Gf 27 (ld 29 5 28),Gf 27 (fa 30 5 3),
Gf 27 (ld 31 5 30),Gf 27 (p2 32 91 29 31),Gf 27 (No 33 32),fH 34 27 33,mv 35 34,Gf 35 (fa 36 10 2),Gf 35 (ln 37 36),Gf 35 (le 38 37),
Gf 35 (fa 39 10 3),Gf 35 (ln 40 39),Gf 35 (le 41 40),Gf 35 (bt 42 .neq 38 41),fH 43 35 42] [2,3,43]
(Cd 43
(Sn [
Fl 4] [4]
.ret)
.skip))
(.seq
(Sn [
ic 5 0] [2,3,5]
(.block 0
(.loop [(2,none),(3,none),(5,none)]
(.seq
(Sn [
mv 44 5,fa 45 10 2,ln 46 45,le 47 46,bt 48 .lss 44 47] [2,3,5,48]
(Cd 48
.skip
(.exit 0)))
(.seq
(.block 1
(Ss [0,1,0,7,15,0,32,0,224,480,1023] [
fa 51 10 2,ln 52 51,mv 53 5,ia 54 3 52 53,ld 55 3 54,fa 56 10 3,ln 57 56,mv 58 5,ia 59 3 57 58,ld 60 3 59,
⟨some 61,.eqc 3 true (.t 55) (.t 60),none⟩] [2,3,5,61]
(Cd 61
(Sn [
Fl 4] [4]
.ret)
.skip)))
(Rn [
mv 49 5,bc 50 .add 49 1,mv 5 50] [2,3,5]))))))
(Sn [
Tr 4] [4]
.ret)))),
[.tmp 4]⟩
theorem aG1:ck x40 40:=by decide+kernel
def x41:aI:=⟨2,
(Sn [
Fl 4] [0,1]
(.seq
(Sn [
mv 6 0,le 7 6,mv 8 1,le 9 8,bt 10 .neq 7 9] [0,1,10]
(Cd 10
(Sn [
Fl 4] [4]
.ret)
.skip))
(.seq
(Sn [
ic 5 0] [0,1,5]
(.block 0
(.loop [(0,none),(1,none),(5,none)]
(.seq
(Sn [
mv 11 5,mv 12 0,le 13 12,bt 14 .lss 11 13] [0,1,5,14]
(Cd 14
.skip
(.exit 0)))
(.seq
(.block 1
(Ss [0,0,3,7,0,0,48,112,255] [
mv 17 0,mv 18 5,ia 19 1 17 18,ln 20 19,mv 21 1,mv 22 5,ia 23 1 21 22,ln 24 23,bt 25 .neq 20 24] [0,1,5,25]
(Cd 25
(Sn [
Fl 4] [4]
.ret)
.skip)))
(Rn [
mv 15 5,bc 16 .add 15 1,mv 5 16] [0,1,5]))))))
(Sn [
Tr 4] [4]
.ret)))),
[.tmp 4]⟩
theorem aG2:ck x41 41:=by decide+kernel
def x43:aI:=⟨2,
(Sn [
ic 4 0] [0,1]
(.seq
(Sn [
mv 6 0,le 7 6,ic 8 0] [0,1,7,8]
(.block 0
(.loop [(0,none),(1,none),(7,none),(8,none)]
(Sn [
bt 9 .lss 8 7] [0,1,7,8,9]
(.seq
(Cd 9
.skip
(.exit 0))
(.seq
(.block 1
(Sn [
mv 10 8,mv 5 10] [0,1,5,7,8]
(Sn [
mv 11 1,mv 12 0,mv 13 5,ia 14 1 12 13,ln 15 14,bt 16 .eql 11 15] [0,1,5,7,8,16]
(Cd 16
(Sn [
mv 17 5,mv 4 17] [4]
.ret)
.skip))))
(Rn [
bc 18 .add 8 1,mv 8 18] [0,1,7,8])))))))
(Sn [
ic 4 (-1)] [4]
.ret))),
[.tmp 4]⟩
theorem aG3:ck x43 43:=by decide+kernel
def x50:aI:=⟨2,
(Sn [
bx 2 0,bx 3 1,
Al 4 z1,
ic 5 0] [2,3,4]
(.seq
(Sn [
ld 10 1 2,p1 11 104 10,mv 6 11] [2,3,4,6]
(Sn [
mv 12 6,bc 13 .neq 12 0] [2,3,4,6,13]
(Cd 13
(Sn [
Bu 14 z1 [],
mv 15 6,st 11 4 14,mv 5 15] [4,5]
.ret)
.skip)))
(.seq
(Sn [
ld 16 2 3,p1 17 33 16,mv 7 17] [2,3,4,7]
(Sn [
mv 18 7,bc 19 .neq 18 0] [2,3,4,7,19]
(Cd 19
(Sn [
Bu 20 z1 [],
mv 21 7,st 11 4 20,mv 5 21] [4,5]
.ret)
.skip)))
(Sn [
⟨some 23,.call .pur 105 [(.c (.int .i64 200))],none⟩,mv 22 23,ex 24 0 22,ex 25 1 22,
Al 8 z2,st 5 8 24,mv 9 25] [2,3,4,8,9]
(Ss [0,0,2,6,14,0,63,0,127,511] [
ld 26 2 3,fa 27 0 2,ln 28 27,p1 29 94 28,Bu 30 [.sl 3 true []] [(0,1,(.t 29))],ld 31 5 8,
Bu 32 z1 [(0,2,(.t 26)),(2,1,(.t 30)),(5,5,(.t 31))],
mv 33 9,st 11 4 32,mv 5 33] [4,5]
.ret))))),
[.cell 4 (some 11),.tmp 5]⟩
theorem aG4:ck x50 50:=by decide+kernel
def x51:aI:=⟨4,
(Sn [
bx 4 0,bx 5 1] [2,3,4,5]
(.block 0
(.loop [(2,none),(3,none),(4,none),(5,none)]
(.seq
(Ss [0,1,3,7,7,7,7,103,231,7,7,1031,3079,7687,15879,32767,65535] [
mv 8 3,bc 9 .gtr 8 0,mv 10 9,Gt 10 (ld 11 1 4),Gt 10 (ld 12 2 5),Gt 10 (mv 13 2),Gt 10 (mv 14 3),Gt 10 (ia 15 1 13 14),Gt 10 (ln 16 15),
Gt 10 (mv 17 2),Gt 10 (mv 18 3),Gt 10 (bc 19 .sub 18 1),Gt 10 (bc 20 .quo 19 2),Gt 10 (ia 21 1 17 20),Gt 10 (ln 22 21),Gt 10 (p4 23 62 11 12 16 22),
rP 24 10 23] [2,3,4,5,24]
(Cd 24
.skip
(.exit 0)))
(.block 1
(Ss [0,0,0,0,8,24,0,0,128,384,960,1984,0,0,12288,28672,65475,131011,262143,524287] [
mv 25 2,mv 26 3,mv 27 2,mv 28 3,bc 29 .sub 28 1,bc 30 .quo 29 2,mv 31 2,mv 32 3,bc 33 .sub 32 1,bc 34 .quo 33 2,ia 35 1 31 34,ln 36 35,mv 37 2,
mv 38 3,ia 39 1 37 38,ln 40 39,ia 41 1 25 26,st 1 41 36,ia 42 1 27 30,st 1 42 40] [2,3,4,5]
(Rn [
mv 43 3,bc 44 .sub 43 1,bc 45 .quo 44 2,mv 3 45] [2,3,4,5]))))))),
[]⟩
theorem aG5:ck x51 51:=by decide+kernel
def x52:aI:=⟨3,
(Sn [
bx 3 0,bx 4 1,
Al 6 z1,
ic 7 0] [2,3,4,6]
(.seq
(Sn [
fa 13 3 3,fa 14 1 13,ln 15 14,le 16 15,ic 17 0] [2,3,4,6,15,16,17]
(.block 0
(.loop [(2,none),(3,none),(4,none),(6,none),(15,none),(16,none),(17,none)]
(Sn [
bt 18 .lss 17 16] [2,3,4,6,15,16,17,18]
(.seq
(Cd 18
.skip
(.exit 0))
(.seq
(.block 1
(Sn [
ia 19 3 15 17,ld 20 3 19,Al 9 z5,st 3 9 20] [2,3,4,6,9,15,16,17]
(Sn [
mv 21 2,fa 22 1 9,ld 23 2 22,p2 24 61 21 23,No 25 24] [2,3,4,6,9,15,16,17,25]
(Cd 25
(Rn [
ld 27 11 3,fa 28 0 9,ln 29 28,p2 30 106 27 29,mv 26 30,ex 31 0 26,ex 32 1 26,st 11 3 31] [2,3,4,6,15,16,17])
.skip))))
(Rn [
bc 33 .add 17 1,mv 17 33] [2,3,4,6,15,16,17])))))))
(Sn [
ic 10 0] [2,3,4,6]
(.seq
(Sn [
fa 34 2 3,fa 35 0 34,ln 36 35,fa 37 0 4,ln 38 37,p2 39 107 36 38,No 40 39] [2,3,4,6,40]
(Cd 40
(Sn [
ld 42 11 3,ld 43 1 4,p2 44 108 42 43,mv 41 44,ex 45 0 41,ex 46 1 41,st 11 3 45,mv 10 46] [2,3,6,10]
(Sn [
mv 47 10,bc 48 .neq 47 0] [2,3,6,10,48]
(Cd 48
(Sn [
Bu 49 z1 [],
mv 50 10,st 11 6 49,mv 7 50] [6,7]
.ret)
.skip)))
.skip))
(.seq
(Sn [
mv 51 2,le 52 51,ic 53 0] [3,6,51,52,53]
(.block 2
(.loop [(3,none),(6,none),(51,none),(52,none),(53,none)]
(Sn [
bt 54 .lss 53 52] [3,6,51,52,53,54]
(.seq
(Cd 54
.skip
(.exit 2))
(.seq
(.block 3
(Sn [
ia 55 2 51 53,ld 56 2 55,Al 12 z8,st 2 12 56] [3,6,12,51,52,53]
(.seq
(Sn [
fa 57 3 3,fa 58 1 57,ln 59 58,⟨some 60,.mkf 110 [] [(.t 12)],none⟩,p2 61 109 59 60] [3,6,12,51,52,53,61]
(Cd 61
(.exit 3)
.skip))
(Sn [
ld 63 11 3,ld 64 2 12,p2 65 111 63 64,mv 62 65,ex 66 0 62,ex 67 1 62,ex 68 2 62,st 11 3 66,mv 10 68] [3,6,10,51,52,53]
(Sn [
mv 69 10,bc 70 .neq 69 0] [3,6,10,51,52,53,70]
(Cd 70
(Sn [
Bu 71 z1 [],
mv 72 10,st 11 6 71,mv 7 72] [6,7]
.ret)
.skip))))))
(Rn [
bc 73 .add 53 1,mv 53 73] [3,6,51,52,53])))))))
(Sn [
ld 74 11 3,st 11 6 74,ic 7 0] [6,7]
.ret)))))),
[.cell 6 (some 11),.tmp 7]⟩
theorem aG6:ck x52 52:=by decide+kernel
def x53:aI:=⟨1,
(Sn [
⟨some 2,.mov (.c (.sl 2 true [])),none⟩] [0]
(Sn [
⟨some 3,.mov (.c (.sl 2 true [])),none⟩] [0,3]
(.seq
(Sn [
ic 4 1] [0,3,4]
(.block 0
(.loop [(0,none),(3,some 2),(4,none)]
(.seq
(Sn [
mv 5 4,mv 6 0,le 7 6,bt 8 .lss 5 7] [0,3,4,8]
(Cd 8
.skip
(.exit 0)))
(.seq
(.block 1
(Rs [0,0,0,6,14,0,0,64,192,480,992,2046,4094,8191,16383] [
mv 11 3,mv 12 0,mv 13 4,ia 14 1 12 13,ln 15 14,mv 16 0,mv 17 4,bc 18 .sub 17 1,bc 19 .quo 18 2,ia 20 1 16 19,ln 21 20,
Bu 22 z8 [(0,1,(.t 15)),(1,1,(.t 21))],⟨some 23,.mkrow 2 1 z8 [(0,(.t 22))],none⟩,ap 24 2 11 23,
mv 3 24] [0,3,4]))
(Rn [
mv 9 4,bc 10 .add 9 1,mv 4 10] [0,3,4]))))))
(Sn [
mv 25 3,mv 2 25] [2]
.ret)))),
[.tmp 2]⟩
theorem aG7:ck x53 53:=by decide+kernel
def x54:aI:=⟨1,
(Sn [
bx 1 0,ic 2 0] [1]
(.seq
(Sn [
fa 5 0 1,ln 6 5,le 7 6,bc 8 .gtr 7 64] [1,8]
(Cd 8
(Sn [
ic 2 4] [2]
.ret)
.skip))
(.seq
(Sn [
ic 3 0] [1,3]
(.block 0
(.loop [(1,none),(3,none)]
(.seq
(Sn [
mv 9 3,fa 10 0 1,ln 11 10,le 12 11,bt 13 .lss 9 12] [1,3,13]
(Cd 13
.skip
(.exit 0)))
(.seq
(.block 1
(Sn [
fa 16 0 1,ln 17 16,mv 18 3,ia 19 3 17 18,ld 20 3 19,p1 21 112 20,bc 22 .neq 21 0] [1,3,22]
(Cd 22
(Sn [
ic 2 8] [2]
.ret)
.skip)))
(Rn [
mv 14 3,bc 15 .add 14 1,mv 3 15] [1,3]))))))
(.seq
(Sn [
ic 4 1] [1,4]
(.block 2
(.loop [(1,none),(4,none)]
(.seq
(Sn [
mv 23 4,fa 24 0 1,ln 25 24,le 26 25,bt 27 .lss 23 26] [1,4,27]
(Cd 27
.skip
(.exit 2)))
(.seq
(.block 3
(Ss [0,1,0,4,15,31,63,0,128,0,896,1920,3968,8191] [
fa 30 0 1,ln 31 30,mv 32 4,bc 33 .sub 32 1,ia 34 3 31 33,fa 35 0 34,ln 36 35,fa 37 0 1,ln 38 37,mv 39 4,ia 40 3 38 39,fa 41 0 40,ln 42 41,
bt 43 .geq 36 42] [1,4,43]
(Cd 43
(Sn [
ic 2 32] [2]
.ret)
.skip)))
(Rn [
mv 28 4,bc 29 .add 28 1,mv 4 29] [1,4]))))))
(Sn [
ic 2 0] [2]
.ret))))),
[.tmp 2]⟩
theorem aG8:ck x54 54:=by decide+kernel
def x55:aI:=⟨1,
(Sn [
bx 1 0,ic 2 0] [1]
(.seq
(Ss [0,1,3,7,15,31,63,127,255,511,1023,2047,511,4607,12799,32767,65535,131071] [
fa 3 1 1,ln 4 3,bc 5 .lss 4 1,mv 6 5,Gf 6 (fa 7 0 1),Gf 6 (ln 8 7),Gf 6 (bc 9 .eql 8 (-9223372036854775808)),fH 10 6 9,mv 11 10,Gf 11 (fa 12 0 1),
Gf 11 (ln 13 12),Gf 11 (p1 14 114 13),Gf 11 (fa 15 1 1),Gf 11 (ln 16 15),Gf 11 (⟨some 17,.conv .u64 (.t 16),none⟩),Gf 11 (p2 18 113 14 17),
Gf 11 (⟨some 19,.bin .neq (.t 18) (.c (.int .u64 1)),none⟩),fH 20 11 19] [20]
(Cd 20
(Sn [
ic 2 8] [2]
.ret)
.skip))
(Sn [
ic 2 0] [2]
.ret))),
[.tmp 2]⟩
theorem aG9:ck x55 55:=by decide+kernel
def x56:aI:=⟨2,
(Sn [
bx 2 0,bx 3 1,
Al 4 z0] [2,3,4]
(Sn [
⟨some 5,.mov (.c (.sl 1 true [])),none⟩] [2,3,4,5]
(.seq
(Sn [
ic 6 0] [2,3,4,5,6]
(.block 0
(.loop [(2,none),(3,none),(4,none),(5,some 1),(6,none)]
(.seq
(Sn [
mv 9 6,fa 10 0 2,ln 11 10,le 12 11,bt 13 .lss 9 12] [2,3,4,5,6,13]
(Cd 13
.skip
(.exit 0)))
(.seq
(.block 1
(Rs [0,0,0,0,12,0,32,0,224,480,992,2016,4092,0,16383,32767] [
ld 16 1 2,ld 17 2 3,⟨some 18,.mkrow 1 0 [.int .i64 0] [],none⟩,mv 19 5,ap 20 1 18 19,fa 21 0 2,ln 22 21,mv 23 6,ia 24 3 22 23,fa 25 0 24,ln 26 25,
⟨some 27,.mkrow 1 1 [.int .i64 0] [(0,(.t 26))],none⟩,ap 28 1 20 27,mv 29 6,⟨some 30,.call .own 68 [(.t 16),(.t 17),(.t 28),(.t 29)],none⟩,
mv 5 30] [2,3,4,5,6]))
(Rn [
mv 14 6,bc 15 .add 14 1,mv 6 15] [2,3,4,5,6]))))))
(Ss [0,0,3,0,0,23,63,127,255,255,0,1535,4095] [
ld 32 1 2,ld 33 2 3,p2 34 115 32 33,ld 35 1 2,mv 36 5,⟨some 37,.call .own 57 [(.t 36)],none⟩,p3 38 87 34 35 37,mv 31 38,ex 39 0 31,ex 40 1 31,
Al 7 z1,
st 11 7 39,mv 8 40] [4,5,7]
(Sn [
ld 41 11 7,mv 42 5,
Bu 43 z0 [(0,11,(.t 41)),(11,1,(.t 42))],
st 12 4 43] [4]
.ret))))),
[.cell 4 (some 12)]⟩
theorem aHa:ck x56 56:=by decide+kernel
def x57:aI:=⟨1,
(Sn [
⟨some 2,.mov (.c (.sl 2 true [])),none⟩] [0]
(Sn [
⟨some 3,.mov (.c (.sl 2 true [])),none⟩] [0,3]
(.seq
(Sn [
ic 4 1] [0,3,4]
(.block 0
(.loop [(0,none),(3,some 2),(4,none)]
(.seq
(Sn [
mv 5 4,mv 6 0,le 7 6,bt 8 .lss 5 7] [0,3,4,8]
(Cd 8
.skip
(.exit 0)))
(.seq
(.block 1
(Rs [0,0,0,6,14,0,0,64,192,480,992,2046,4094,8191,16383] [
mv 11 3,mv 12 0,mv 13 4,ia 14 1 12 13,ln 15 14,mv 16 0,mv 17 4,bc 18 .sub 17 1,bc 19 .quo 18 2,ia 20 1 16 19,ln 21 20,
Bu 22 z8 [(0,1,(.t 15)),(1,1,(.t 21))],⟨some 23,.mkrow 2 1 z8 [(0,(.t 22))],none⟩,ap 24 2 11 23,
mv 3 24] [0,3,4]))
(Rn [
mv 9 4,bc 10 .add 9 1,mv 4 10] [0,3,4]))))))
(Sn [
mv 25 3,mv 2 25] [2]
.ret)))),
[.tmp 2]⟩
theorem aHb:ck x57 57:=by decide+kernel
def x58:aI:=⟨1,
(Sn [
bx 1 0,Al 2 z3,ic 3 0] [1,2]
(.seq
(Sn [
ld 5 11 1,p1 6 59 5,mv 4 6] [1,2,4]
(Sn [
mv 7 4,bc 8 .neq 7 0] [1,2,4,8]
(Cd 8
(Sn [
Bu 9 z3 [],mv 10 4,st 5 2 9,mv 3 10] [2,3]
.ret)
.skip)))
(Sn [
fa 11 5 1,ld 12 5 11,p1 13 116 12,ex 14 0 13,ex 15 1 13,st 5 2 14,mv 3 15] [2,3]
.ret))),
[.cell 2 (some 5),.tmp 3]⟩
theorem aHc:ck x58 58:=by decide+kernel
def x59:aI:=⟨1,
(Sn [
bx 1 0,ic 2 0] [1]
(.seq
(Ss [0,1,3,0,8,31,0,64,255,0,512,2047,4095,8191,0] [
fa 12 0 1,ld 13 2 12,p1 14 33 13,fa 15 2 1,ld 16 1 15,p1 17 104 16,fa 18 3 1,ld 19 2 18,p1 20 117 19,fa 21 5 1,ld 22 5 21,p1 23 118 22,
⟨some 24,.mkrow 1 4 [.int .i64 0] [(0,(.t 14)),(1,(.t 17)),(2,(.t 20)),(3,(.t 23))],none⟩,le 25 24,ic 26 0] [1,24,25,26]
(.block 0
(.loop [(1,none),(24,none),(25,none),(26,none)]
(Sn [
bt 27 .lss 26 25] [1,24,25,26,27]
(.seq
(Cd 27
.skip
(.exit 0))
(.seq
(.block 1
(Sn [
ia 28 1 24 26,ln 29 28,mv 4 29] [1,4,24,25,26]
(Sn [
mv 30 4,bc 31 .neq 30 0] [1,24,25,26,31]
(Cd 31
(Sn [
ic 2 8] [2]
.ret)
.skip))))
(Rn [
bc 32 .add 26 1,mv 26 32] [1,24,25,26])))))))
(.seq
(Sn [
fa 33 5 1,fa 34 4 33,ln 35 34,le 36 35,bc 37 .neq 36 200,mv 38 37,Gf 38 (fa 39 5 1),Gf 38 (fa 40 3 39),Gf 38 (ln 41 40),Gf 38 (le 42 41),
Gf 38 (fa 43 10 1),Gf 38 (ln 44 43),Gf 38 (le 45 44),Gf 38 (bt 46 .neq 42 45),fH 47 38 46] [1,47]
(Cd 47
(Sn [
ic 2 8] [2]
.ret)
.skip))
(Sn [
fa 48 10 1,ln 49 48,mv 5 49] [1,5]
(.seq
(Sn [
fa 50 3 1,fa 51 1 50,ln 52 51,le 53 52,ic 54 0] [1,5,52,53,54]
(.block 2
(.loop [(1,none),(5,none),(52,none),(53,none),(54,none)]
(Sn [
bt 55 .lss 54 53] [1,5,52,53,54,55]
(.seq
(Cd 55
.skip
(.exit 2))
(.seq
(.block 3
(Sn [
ia 56 3 52 54,ld 57 3 56,Al 7 z5,st 3 7 57] [1,5,7,52,53,54]
(Sn [
fa 59 2 1,ld 60 1 59,fa 61 1 7,ld 62 2 61,fa 63 0 1,ld 64 2 63,p3 65 119 60 62 64,mv 58 65,ex 66 0 58,ex 67 1 58,ex 68 2 58,
Al 8 z8,st 2 8 66,mv 9 67,mv 10 68] [1,5,7,8,9,10,52,53,54]
(.seq
(Sn [
mv 69 10,bc 70 .neq 69 0] [1,5,7,8,9,52,53,54,70]
(Cd 70
(Sn [
ic 2 8] [2]
.ret)
.skip))
(.seq
(Sn [
mv 71 9,No 72 71] [1,5,7,8,52,53,54,72]
(Cd 72
(.exit 3)
.skip))
(.seq
(Ss [0,1,3,7,15,31,63,127,15,271,1023,2047] [
mv 73 5,le 74 73,bc 75 .eql 74 0,mv 76 75,Gf 76 (mv 77 5),Gf 76 (⟨some 78,.iadr 3 (.t 77) (.c (.int .i64 0)),none⟩),Gf 76 (fa 79 0 78),
Gf 76 (ln 80 79),Gf 76 (fa 81 0 7),Gf 76 (ln 82 81),Gf 76 (bt 83 .neq 80 82),fH 84 76 83] [1,5,7,8,52,53,54,84]
(Cd 84
(Sn [
ic 2 8] [2]
.ret)
.skip))
(Sn [
mv 85 5,⟨some 86,.iadr 3 (.t 85) (.c (.int .i64 0)),none⟩,fa 87 1 86,ld 88 2 87,Al 11 z8,st 2 11 88] [1,5,7,8,11,52,53,54]
(.seq
(Ss [0,1,3,7,15,31,63,127,255,511,1023,2047,511,4607,16383,32767,65535,131071,262143,524287,1048575,2097151,524287,4718591,13107199,524287,34078719,130547711,264765439,536870911,1073741823,524287,524287,4295491583,524287,32212779007,68719476735,137438953471] [
fa 89 0 11,ln 90 89,bc 91 .lss 90 0,mv 92 91,Gf 92 (fa 93 0 11),Gf 92 (ln 94 93),Gf 92 (bc 95 .geq 94 200),fH 96 92 95,mv 97 96,Gf 97 (fa 98 5 1),
Gf 97 (fa 99 4 98),Gf 97 (ln 100 99),Gf 97 (fa 101 0 11),Gf 97 (ln 102 101),Gf 97 (ia 103 1 100 102),Gf 97 (ln 104 103),Gf 97 (bc 105 .lss 104 0),
fH 106 97 105,mv 107 106,Gf 107 (fa 108 5 1),Gf 107 (fa 109 3 108),Gf 107 (ln 110 109),Gf 107 (fa 111 5 1),Gf 107 (fa 112 4 111),Gf 107 (ln 113 112),
Gf 107 (fa 114 0 11),Gf 107 (ln 115 114),Gf 107 (ia 116 1 113 115),Gf 107 (ln 117 116),Gf 107 (ia 118 5 110 117),Gf 107 (ld 119 5 118),
Gf 107 (ld 120 2 8),Gf 107 (fa 121 0 7),Gf 107 (ln 122 121),Gf 107 (ld 123 2 11),
Gf 107 (Bu 124 z3 [(0,2,(.t 120)),(2,1,(.t 122)),(3,2,(.t 123))]),
Gf 107 (⟨some 125,.eqc 5 true (.t 119) (.t 124),none⟩),fH 126 107 125] [1,5,52,53,54,126]
(Cd 126
(Sn [
ic 2 8] [2]
.ret)
.skip))
(Rn [
mv 127 5,⟨some 128,.slc 3 (.t 127) (some (.c (.int .i64 1))) none none,none⟩,mv 5 128] [1,5,52,53,54])))))))))
(Rn [
bc 129 .add 54 1,mv 54 129] [1,5,52,53,54])))))))
(.seq
(Sn [
mv 130 5,le 131 130,bc 132 .gtr 131 0] [132]
(Cd 132
(Sn [
ic 2 8] [2]
.ret)
.skip))
(Sn [
ic 2 0] [2]
.ret))))))),
[.tmp 2]⟩
theorem aHd:ck x59 59:=by decide+kernel
def x60:aI:=⟨2,
(Sn [
Fl 4] [0,1]
(Sn [
mv 5 0,mv 6 1,p2 7 43 5 6,bc 8 .geq 7 0,mv 4 8] [4]
.ret)),
[.tmp 4]⟩
theorem aHe:ck x60 60:=by decide+kernel
def x61:aI:=⟨2,
(Sn [
bx 3 1,Fl 4] [0,3]
(Sn [
mv 5 0,ld 6 2 3,p2 7 120 5 6,bc 8 .geq 7 0,mv 4 8] [4]
.ret)),
[.tmp 4]⟩
theorem aHf:ck x61 61:=by decide+kernel
def x62:aI:=⟨4,
(Sn [
bx 4 0,bx 5 1,Fl 8] [2,3,4,5]
(Sn [
ld 16 1 4,mv 17 2,p2 18 96 16 17,mv 15 18,ex 19 0 15,ex 20 1 15,Al 9 z5,st 3 9 19,mv 10 20] [3,4,5,9]
(Sn [
ld 22 1 4,mv 23 3,p2 24 96 22 23,mv 21 24,ex 25 0 21,ex 26 1 21,Al 11 z5,st 3 11 25,mv 12 26] [5,9,11]
(Sn [
ld 28 3 9,ld 29 3 11,ld 30 2 5,p3 31 97 28 29 30,mv 27 31,ex 32 0 27,ex 33 1 27,mv 13 32,mv 14 33] [13]
(Sn [
mv 34 13,mv 8 34] [8]
.ret))))),
[.tmp 8]⟩
theorem aHg:ck x62 62:=by decide+kernel
def x63:aI:=⟨1,
(Sn [
bx 1 0,ic 2 0] [1]
(.seq
(Sn [
fa 10 0 1,ld 11 2 10,p1 12 55 11,bc 13 .neq 12 0,mv 14 13,Gf 14 (fa 15 2 1),Gf 14 (ld 16 1 15),Gf 14 (p1 17 54 16),Gf 14 (bc 18 .neq 17 0),
fH 19 14 18,mv 20 19,Gf 20 (fa 21 3 1),Gf 20 (ld 22 2 21),Gf 20 (p1 23 121 22),Gf 20 (bc 24 .neq 23 0),fH 25 20 24,mv 26 25,Gf 26 (fa 27 3 1),
Gf 26 (ld 28 2 27),Gf 26 (fa 29 2 1),Gf 26 (ld 30 1 29),Gf 26 (p2 31 122 28 30),Gf 26 (No 32 31),fH 33 26 32,mv 34 33,Gf 34 (fa 35 5 1),
Gf 34 (ld 36 5 35),Gf 34 (p1 37 123 36),Gf 34 (bc 38 .neq 37 0),fH 39 34 38,mv 40 39,Gf 40 (fa 41 5 1),Gf 40 (fa 42 4 41),Gf 40 (ln 43 42),
Gf 40 (le 44 43),Gf 40 (bc 45 .neq 44 200),fH 46 40 45,mv 47 46,Gf 47 (fa 48 5 1),Gf 47 (fa 49 3 48),Gf 47 (ln 50 49),Gf 47 (le 51 50),
Gf 47 (fa 52 10 1),Gf 47 (ln 53 52),Gf 47 (le 54 53),Gf 47 (bt 55 .neq 51 54),fH 56 47 55] [1,56]
(Cd 56
(Sn [
ic 2 8] [2]
.ret)
.skip))
(Sn [
ic 3 0] [1,3]
(.seq
(Sn [
ic 4 0] [1,3,4]
(.block 0
(.loop [(1,none),(3,none),(4,none)]
(.seq
(Sn [
mv 57 4,fa 58 3 1,fa 59 1 58,ln 60 59,le 61 60,bt 62 .lss 57 61] [1,3,4,62]
(Cd 62
.skip
(.exit 0)))
(.seq
(.block 1
(Sn [
fa 65 3 1,fa 66 1 65,ln 67 66,mv 68 4,ia 69 3 67 68,ld 70 3 69,Al 5 z5,st 3 5 70] [1,3,4,5]
(Sn [
fa 72 2 1,ld 73 1 72,fa 74 1 5,ld 75 2 74,fa 76 0 1,ld 77 2 76,p3 78 124 73 75 77,mv 71 78,ex 79 0 71,ex 80 1 71,Al 6 z8,
st 2 6 79,mv 7 80] [1,3,4,5,6,7]
(.seq
(Sn [
mv 81 7,No 82 81] [1,3,4,5,6,82]
(Cd 82
(.exit 1)
.skip))
(.seq
(Ss [0,0,2,6,15,31,63,127,63,511,1023,2047,63,4159,16383,32767] [
mv 83 3,fa 84 10 1,ln 85 84,le 86 85,bt 87 .geq 83 86,mv 88 87,Gf 88 (fa 89 10 1),Gf 88 (ln 90 89),Gf 88 (mv 91 3),Gf 88 (ia 92 3 90 91),
Gf 88 (fa 93 0 92),Gf 88 (ln 94 93),Gf 88 (fa 95 0 5),Gf 88 (ln 96 95),Gf 88 (bt 97 .neq 94 96),fH 98 88 97] [1,3,4,5,6,98]
(Cd 98
(Sn [
ic 2 8] [2]
.ret)
.skip))
(Ss [0,1,0,4,0,28,60,124,255,511,1023,1023,0,6143,16383] [
fa 100 5 1,ld 101 5 100,fa 102 10 1,ln 103 102,mv 104 3,ia 105 3 103 104,fa 106 1 105,ld 107 2 106,p2 108 125 101 107,mv 99 108,ex 109 0 99,
ex 110 1 99,Al 8 z3,st 5 8 109,mv 9 110] [1,3,4,5,6,8,9]
(.seq
(Sn [
mv 111 9,bc 112 .neq 111 0,mv 113 112,Gf 113 (fa 114 2 8),Gf 113 (ln 115 114),Gf 113 (fa 116 0 5),Gf 113 (ln 117 116),Gf 113 (bt 118 .neq 115 117),
fH 119 113 118,mv 120 119,Gf 120 (fa 121 0 8),Gf 120 (ld 122 2 121),Gf 120 (ld 123 2 6),Gf 120 (⟨some 124,.eqc 2 true (.t 122) (.t 123),none⟩),
fH 125 120 124] [1,3,4,125]
(Cd 125
(Sn [
ic 2 8] [2]
.ret)
.skip))
(Rn [
mv 126 3,bc 127 .add 126 1,mv 3 127] [1,3,4]))))))))
(Rn [
mv 63 4,bc 64 .add 63 1,mv 4 64] [1,3,4]))))))
(.seq
(Sn [
mv 128 3,fa 129 10 1,ln 130 129,le 131 130,bt 132 .neq 128 131] [132]
(Cd 132
(Sn [
ic 2 8] [2]
.ret)
.skip))
(Sn [
ic 2 0] [2]
.ret)))))),
[.tmp 2]⟩
theorem aHh:ck x63 63:=by decide+kernel
def x64:aI:=⟨2,
(Sn [
bx 2 0,ic 4 0] [1,2]
(.seq
(Sn [
ic 5 0] [1,2,5]
(.block 0
(.loop [(1,none),(2,none),(5,none)]
(.seq
(Sn [
mv 6 5,fa 7 0 2,ln 8 7,le 9 8,bt 10 .lss 6 9] [1,2,5,10]
(Cd 10
.skip
(.exit 0)))
(.seq
(.block 1
(Sn [
fa 13 0 2,ln 14 13,mv 15 5,ia 16 3 14 15,fa 17 0 16,ln 18 17,mv 19 1,bt 20 .eql 18 19] [1,2,5,20]
(Cd 20
(Sn [
mv 21 5,mv 4 21] [4]
.ret)
.skip)))
(Rn [
mv 11 5,bc 12 .add 11 1,mv 5 12] [1,2,5]))))))
(Sn [
ic 4 (-1)] [4]
.ret))),
[.tmp 4]⟩
theorem aHi:ck x64 64:=by decide+kernel
def x65:aI:=⟨2,
(Sn [
bx 2 0,Fl 4] [1,2]
(.seq
(Sn [
fa 6 3 2,fa 7 1 6,ln 8 7,le 9 8,mv 10 1,le 11 10,bt 12 .neq 9 11] [1,2,12]
(Cd 12
(Sn [
Fl 4] [4]
.ret)
.skip))
(.seq
(Sn [
ic 5 0] [1,2,5]
(.block 0
(.loop [(1,none),(2,none),(5,none)]
(.seq
(Sn [
mv 13 5,mv 14 1,le 15 14,bt 16 .lss 13 15] [1,2,5,16]
(Cd 16
.skip
(.exit 0)))
(.seq
(.block 1
(Ss [0,1,0,0,12,28,63,127,255,511,511,2047,4095,511,8703,511,33279,131071,262143,524287] [
fa 19 3 2,ld 20 2 19,mv 21 1,mv 22 5,ia 23 2 21 22,ld 24 2 23,p2 25 126 20 24,No 26 25,mv 27 26,Gf 27 (mv 28 1),Gf 27 (mv 29 5),
Gf 27 (ia 30 2 28 29),Gf 27 (ld 31 2 30),Gf 27 (fa 32 2 2),Gf 27 (ld 33 1 32),Gf 27 (fa 34 0 2),Gf 27 (ld 35 2 34),Gf 27 (p3 36 127 31 33 35),
Gf 27 (No 37 36),fH 38 27 37] [1,2,5,38]
(Cd 38
(Sn [
Fl 4] [4]
.ret)
.skip)))
(Rn [
mv 17 5,bc 18 .add 17 1,mv 5 18] [1,2,5]))))))
(Sn [
Tr 4] [4]
.ret)))),
[.tmp 4]⟩
theorem aHj:ck x65 65:=by decide+kernel
def x68:aI:=⟨4,
(Sn [
bx 4 0,bx 5 1,⟨some 8,.mov (.c (.sl 1 true [])),none⟩] [2,3,4,5]
(Sn [
⟨some 10,.mkrow 1 0 [.int .i64 0] [],none⟩,mv 11 2,ap 12 1 10 11,mv 9 12] [3,4,5,9]
(.seq
(.block 0
(.loop [(3,none),(4,none),(5,none),(9,none)]
(.seq
(Ss [0,1,3,7,7,7,7,103,231,7,7,1031,3079,7687,15879,32767,65535] [
mv 13 3,bc 14 .gtr 13 0,mv 15 14,Gt 15 (ld 16 1 4),Gt 15 (ld 17 2 5),Gt 15 (mv 18 9),Gt 15 (mv 19 3),Gt 15 (ia 20 1 18 19),Gt 15 (ln 21 20),
Gt 15 (mv 22 9),Gt 15 (mv 23 3),Gt 15 (bc 24 .sub 23 1),Gt 15 (bc 25 .quo 24 2),Gt 15 (ia 26 1 22 25),Gt 15 (ln 27 26),Gt 15 (p4 28 131 16 17 21 27),
rP 29 15 28] [3,4,5,9,29]
(Cd 29
.skip
(.exit 0)))
(.block 1
(Ss [0,0,0,0,8,24,0,0,128,384,960,1984,0,0,12288,28672,65475,131011,262143,524287] [
mv 30 9,mv 31 3,mv 32 9,mv 33 3,bc 34 .sub 33 1,bc 35 .quo 34 2,mv 36 9,mv 37 3,bc 38 .sub 37 1,bc 39 .quo 38 2,ia 40 1 36 39,ln 41 40,mv 42 9,
mv 43 3,ia 44 1 42 43,ln 45 44,ia 46 1 30 31,st 1 46 41,ia 47 1 32 35,st 1 47 45] [3,4,5,9]
(Rn [
mv 48 3,bc 49 .sub 48 1,bc 50 .quo 49 2,mv 3 50] [3,4,5,9]))))))
(Sn [
mv 51 9,mv 8 51] [8]
.ret)))),
[.tmp 8]⟩
theorem aHk:ck x68 68:=by decide+kernel
def x71:aI:=⟨1,
(Sn [
bx 1 0,Fl 2] [1]
(Sn [
fa 3 0 1,ld 4 3 3,p1 5 132 4,mv 6 5,Gf 6 (fa 7 3 1),Gf 6 (ln 8 7),Gf 6 (le 9 8),Gf 6 (bc 10 .gtr 9 210),fH 11 6 10,mv 12 11,Gf 12 (fa 13 4 1),
Gf 12 (ln 14 13),Gf 12 (le 15 14),Gf 12 (bc 16 .gtr 15 210),fH 17 12 16,mv 2 17] [2]
.ret)),
[.tmp 2]⟩
theorem aHl:ck x71 71:=by decide+kernel
def x72:aI:=⟨1,
(Sn [
bx 1 0,Al 2 [.sl 3 true []]] [1,2]
(Sn [
⟨some 3,.mkrow 3 0 z5 [],none⟩,fa 4 0 1,ln 5 4,ap 6 3 3 5,Bu 7 [.sl 3 true []] [(0,1,(.t 6))],st 1 2 7] [2]
.ret)),
[.cell 2 (some 1)]⟩
theorem aHm:ck x72 72:=by decide+kernel
def x73:aI:=⟨1,
(Sn [
bx 1 0,Al 2 z7] [1,2]
(Ss [0,1,0,0,8,28,63,127] [
fa 3 0 1,ln 4 3,⟨some 5,.mkrow 3 0 z5 [],none⟩,fa 6 1 1,ln 7 6,ap 8 3 5 7,
Bu 9 z7 [(0,1,(.t 4)),(1,1,(.t 8))],st 2 2 9] [2]
.ret)),
[.cell 2 (some 2)]⟩
theorem aHn:ck x73 73:=by decide+kernel
def x74:aI:=⟨1,
(Sn [
bx 1 0,Al 2 z2] [1,2]
(Ss [0,1,3,0,0,16,63,0,0,256,1023,2047,4095] [
fa 3 0 1,ld 4 3 3,⟨some 5,.call .own 133 [(.t 4)],none⟩,⟨some 6,.mkrow 5 0 z3 [],none⟩,
fa 7 3 1,ln 8 7,ap 9 5 6 8,⟨some 10,.mkrow 1 0 [.int .i64 0] [],none⟩,fa 11 4 1,ln 12 11,ap 13 1 10 12,
Bu 14 z2 [(0,3,(.t 5)),(3,1,(.t 9)),(4,1,(.t 13))],st 5 2 14] [2]
.ret)),
[.cell 2 (some 5)]⟩
theorem aHo:ck x74 74:=by decide+kernel
def x75:aI:=⟨2,
(Sn [
⟨some 4,.mov (.c (.int .u64 0)),none⟩] [0,1]
(.seq
(.block 0
(.loop [(0,none),(1,none)]
(.seq
(Sn [
mv 5 1,⟨some 6,.bin .gtr (.t 5) (.c (.int .u64 0)),none⟩] [0,1,6]
(Cd 6
.skip
(.exit 0)))
(.block 1
(Rs [0,0,0,6,3,31] [
mv 7 1,mv 8 0,mv 9 1,bt 10 .rem 8 9,mv 0 7,mv 1 10] [0,1])))))
(Sn [
mv 11 0,mv 4 11] [4]
.ret))),
[.tmp 4]⟩
theorem aHp:ck x75 75:=by decide+kernel
def x76:aI:=⟨1,
(Sn [
⟨some 2,.mov (.c (.int .u64 0)),none⟩] [0]
(.seq
(Sn [
mv 3 0,bc 4 .lss 3 0] [0,4]
(Cd 4
(Sn [
mv 5 0,⟨some 6,.conv .u64 (.t 5),none⟩,⟨some 7,.un .neg (.t 6),none⟩,mv 2 7] [2]
.ret)
.skip))
(Sn [
mv 8 0,⟨some 9,.conv .u64 (.t 8),none⟩,mv 2 9] [2]
.ret))),
[.tmp 2]⟩
theorem aHq:ck x76 76:=by decide+kernel
def x77:aI:=⟨2,
(Sn [
bx 2 0,bx 3 1,ic 4 0] [2,3]
(Ss [0,1,0,7,15,31] [
ld 5 2 2,p1 6 33 5,ld 7 2 3,p1 8 33 7,⟨some 9,.mm true (.t 6) [(.t 8)],none⟩,mv 4 9] [4]
.ret)),
[.tmp 4]⟩
theorem aHr:ck x77 77:=by decide+kernel
def x78:aI:=⟨2,
(Sn [
ic 4 0] [0,1]
(Sn [
mv 7 0,p1 8 134 7,mv 5 8] [0,1,5]
(Sn [
mv 9 1,p1 10 134 9,mv 6 10] [0,1,5,6]
(.seq
(Sn [
mv 11 5] [0,1,6,11]
(Cd 11
(.seq
(Sn [
mv 12 6] [12]
(Cd 12
(Sn [
ic 4 0] [4]
.ret)
.skip))
(Sn [
ic 4 (-1)] [4]
.ret))
.skip))
(.seq
(Sn [
mv 13 6] [0,1,13]
(Cd 13
(Sn [
ic 4 1] [4]
.ret)
.skip))
(.seq
(Sn [
mv 14 0,mv 15 1,bt 16 .lss 14 15] [0,1,16]
(Cd 16
(Sn [
ic 4 (-1)] [4]
.ret)
.skip))
(.seq
(Sn [
mv 17 0,mv 18 1,bt 19 .gtr 17 18] [19]
(Cd 19
(Sn [
ic 4 1] [4]
.ret)
.skip))
(Sn [
ic 4 0] [4]
.ret)))))))),
[.tmp 4]⟩
theorem aHs:ck x78 78:=by decide+kernel
def x79:aI:=⟨2,
(Sn [
bx 2 0,bx 3 1,ic 4 0] [2,3]
(.seq
(Sn [
fa 6 1 2,ln 7 6,fa 8 1 3,ln 9 8,p2 10 135 7 9,mv 5 10] [2,3,5]
(Sn [
mv 11 5,bc 12 .neq 11 0] [2,3,5,12]
(Cd 12
(Sn [
mv 13 5,mv 4 13] [4]
.ret)
.skip)))
(Sn [
fa 14 2 2,ln 15 14,fa 16 2 3,ln 17 16,p2 18 135 15 17,mv 4 18] [4]
.ret))),
[.tmp 4]⟩
theorem aHt:ck x79 79:=by decide+kernel
def x80:aI:=⟨2,
(Sn [
Al 4 z6] [0,1,4]
(Sn [
mv 8 0,p1 9 76 8,mv 10 1,p1 11 76 10,p2 12 136 9 11,mv 7 12,ex 13 0 7,ex 14 1 7,mv 5 13,mv 6 14] [0,1,4,5,6]
(Sn [
mv 15 0,bc 16 .lss 15 0,mv 17 1,bc 18 .lss 17 0,⟨some 19,.binb true (.t 16) (.t 18),none⟩,mv 20 5,mv 21 6,
Bu 22 z6 [(0,1,(.t 19)),(1,1,(.t 20)),(2,1,(.t 21))],st 3 4 22] [4]
.ret))),
[.cell 4 (some 3)]⟩
theorem aHu:ck x80 80:=by decide+kernel
def x83:aI:=⟨1,
(Sn [
bx 1 0,
Al 2 z1] [1,2]
(Ss [0,1,3,7,0,16,48,127,0,256,1023,2047,4095,8191,16383,32767,65535,131071,262143] [
fa 4 2 1,fa 5 0 4,ln 6 5,p1 7 94 6,fa 8 3 1,fa 9 1 8,ln 10 9,p1 11 138 10,fa 12 10 1,ln 13 12,p1 14 139 13,fa 15 2 1,fa 16 0 15,st 1 16 7,
fa 17 3 1,fa 18 1 17,st 1 18 11,fa 19 10 1,st 1 19 14] [1,2]
(Ss [0,1,3,7,0,16,48,127,255,511,1023,2047,4095,8191] [
fa 20 5 1,fa 21 3 20,ln 22 21,p1 23 140 22,fa 24 5 1,fa 25 4 24,ln 26 25,p1 27 37 26,fa 28 5 1,fa 29 3 28,st 1 29 23,fa 30 5 1,fa 31 4 30,
st 1 31 27] [1,2]
(Sn [
fa 32 5 1,fa 33 0 32,mv 3 33] [1,2,3]
(Ss [0,0,0,0,8,24,56,120,0,256,768,1792,4088,0,8192,24576,57344,131064,262137,524281,1048569,2097147,4194299,8388603,16777215,33554431,67108863] [
mv 34 3,mv 35 3,mv 36 3,mv 37 3,⟨some 38,.nilc (.t 37),none⟩,fa 39 0 38,ln 40 39,p1 41 37 40,mv 42 3,⟨some 43,.nilc (.t 42),none⟩,fa 44 1 43,
ln 45 44,p1 46 141 45,mv 47 3,⟨some 48,.nilc (.t 47),none⟩,fa 49 2 48,ln 50 49,p1 51 37 50,⟨some 52,.nilc (.t 34),none⟩,fa 53 0 52,st 1 53 41,
⟨some 54,.nilc (.t 35),none⟩,fa 55 1 54,st 1 55 46,⟨some 56,.nilc (.t 36),none⟩,fa 57 2 56,st 1 57 51] [1,2]
(Sn [
ld 58 11 1,st 11 2 58] [2]
.ret)))))),
[.cell 2 (some 11)]⟩
theorem aHv:ck x83 83:=by decide+kernel
def x84:aI:=⟨2,
(Sn [
bx 2 0,bx 3 1,ic 4 0] [2,3]
(Ss [0,1,0,4,15,0,32,0,128,511,0,0,4095,8191] [
fa 7 0 2,ln 8 7,fa 9 1 3,ln 10 9,p2 11 142 8 10,fa 12 0 3,ln 13 12,fa 14 1 2,ln 15 14,p2 16 142 13 15,Al 5 z6,
Al 6 z6,st 3 5 11,st 3 6 16] [5,6]
(.seq
(Ss [0,1,0,7,15] [
ld 17 3 5,p1 18 143 17,ld 19 3 6,p1 20 143 19,bt 21 .neq 18 20] [5,6,21]
(Cd 21
(.seq
(Ss [0,1,0,7,15] [
ld 22 3 5,p1 23 143 22,ld 24 3 6,p1 25 143 24,bt 26 .lss 23 25] [26]
(Cd 26
(Sn [
ic 4 (-1)] [4]
.ret)
.skip))
(Sn [
ic 4 1] [4]
.ret))
.skip))
(.seq
(Sn [
ld 27 3 5,p1 28 143 27,bc 29 .lss 28 0] [5,6,29]
(Cd 29
(Sn [
ld 30 3 6,ld 31 3 5,p2 32 144 30 31,mv 4 32] [4]
.ret)
.skip))
(Sn [
ld 33 3 5,ld 34 3 6,p2 35 144 33 34,mv 4 35] [4]
.ret))))),
[.tmp 4]⟩
theorem aHw:ck x84 84:=by decide+kernel
def x87:aI:=⟨3,
(Sn [
bx 3 0,bx 4 1,
Al 6 z1,
ic 7 0] [2,3,4,6]
(Sn [
ld 16 11 3,p1 17 32 16,
Al 8 z1,
st 11 8 17] [2,3,4,6,8]
(.seq
(Sn [
ic 9 0] [2,3,4,6,8,9]
(.block 0
(.loop [(2,none),(3,none),(4,none),(6,none),(8,none),(9,none)]
(.seq
(Sn [
mv 18 9,fa 19 3 3,fa 20 1 19,ln 21 20,le 22 21,bt 23 .lss 18 22] [2,3,4,6,8,9,23]
(Cd 23
.skip
(.exit 0)))
(.seq
(.block 1
(Sn [
mv 26 2,fa 27 3 3,fa 28 1 27,ln 29 28,mv 30 9,ia 31 3 29 30,fa 32 1 31,ld 33 2 32,p2 34 147 26 33,No 35 34] [2,3,4,6,8,9,35]
(Cd 35
(Rs [0,0,2,6,0,30,62,126,255,511] [
ld 36 11 8,fa 37 3 3,fa 38 1 37,ln 39 38,mv 40 9,ia 41 3 39 40,fa 42 0 41,ln 43 42,p2 44 146 36 43,st 11 8 44] [2,3,4,6,8,9])
.skip)))
(Rn [
mv 24 9,bc 25 .add 24 1,mv 9 25] [2,3,4,6,8,9]))))))
(.seq
(Sn [
fa 45 2 8,ld 46 1 45,ld 47 1 4,p2 48 89 46 47,No 49 48] [2,4,6,8,49]
(Cd 49
(Sn [
ld 51 11 8,ld 52 1 4,p2 53 148 51 52,mv 50 53,ex 54 0 50,ex 55 1 50,
Al 10 z1,
st 11 10 54,mv 11 55] [2,6,8,10,11]
(.seq
(Sn [
mv 56 11,bc 57 .neq 56 0] [2,6,8,10,11,57]
(Cd 57
(Sn [
Bu 58 z1 [],
mv 59 11,st 11 6 58,mv 7 59] [6,7]
.ret)
.skip))
(Rn [
ld 60 11 10,st 11 8 60] [2,6,8])))
.skip))
(.seq
(Sn [
ic 12 0] [2,6,8,12]
(.block 2
(.loop [(2,none),(6,none),(8,none),(12,none)]
(.seq
(Sn [
mv 61 12,mv 62 2,le 63 62,bt 64 .lss 61 63] [2,6,8,12,64]
(Cd 64
.skip
(.exit 2)))
(.seq
(.block 3
(.seq
(Ss [0,1,0,0,12,28,63] [
fa 67 3 8,ld 68 2 67,mv 69 2,mv 70 12,ia 71 2 69 70,ld 72 2 71,p2 73 126 68 72] [2,6,8,12,73]
(Cd 73
(.exit 3)
.skip))
(Ss [0,0,0,6,14,31,63,127,127,127,0,1279,3583,8191] [
ld 75 11 8,mv 76 2,mv 77 12,ia 78 2 76 77,ld 79 2 78,p2 80 149 75 79,mv 74 80,ex 81 0 74,ex 82 1 74,ex 83 2 74,
Al 13 z1,
st 11 13 81,mv 14 82,mv 15 83] [2,6,8,12,13,15]
(.seq
(Sn [
mv 84 15,bc 85 .neq 84 0] [2,6,8,12,13,15,85]
(Cd 85
(Sn [
Bu 86 z1 [],
mv 87 15,st 11 6 86,mv 7 87] [6,7]
.ret)
.skip))
(Rn [
ld 88 11 13,st 11 8 88] [2,6,8,12])))))
(Rn [
mv 65 12,bc 66 .add 65 1,mv 12 66] [2,6,8,12]))))))
(Sn [
ld 89 11 8,st 11 6 89,ic 7 0] [6,7]
.ret)))))),
[.cell 6 (some 11),.tmp 7]⟩
theorem aHx:ck x87 87:=by decide+kernel
def x89:aI:=⟨2,
(Sn [
bx 2 0,bx 3 1,Fl 4] [2,3]
(.seq
(Sn [
fa 6 0 2,ln 7 6,le 8 7,fa 9 0 3,ln 10 9,le 11 10,bt 12 .neq 8 11] [2,3,12]
(Cd 12
(Sn [
Fl 4] [4]
.ret)
.skip))
(.seq
(Sn [
ic 5 0] [2,3,5]
(.block 0
(.loop [(2,none),(3,none),(5,none)]
(.seq
(Sn [
mv 13 5,fa 14 0 2,ln 15 14,le 16 15,bt 17 .lss 13 16] [2,3,5,17]
(Cd 17
.skip
(.exit 0)))
(.seq
(.block 1
(Ss [0,1,0,7,15,0,32,0,224,480,1023] [
fa 20 0 2,ln 21 20,mv 22 5,ia 23 3 21 22,ld 24 3 23,fa 25 0 3,ln 26 25,mv 27 5,ia 28 3 26 27,ld 29 3 28,
⟨some 30,.eqc 3 true (.t 24) (.t 29),none⟩] [2,3,5,30]
(Cd 30
(Sn [
Fl 4] [4]
.ret)
.skip)))
(Rn [
mv 18 5,bc 19 .add 18 1,mv 5 19] [2,3,5]))))))
(Sn [
Tr 4] [4]
.ret)))),
[.tmp 4]⟩
theorem aHy:ck x89 89:=by decide+kernel
def x90:aI:=⟨2,
(Sn [
bx 2 0,bx 3 1,Fl 4] [2,3]
(.seq
(Sn [
fa 6 0 2,ln 7 6,fa 8 0 3,ln 9 8,bt 10 .neq 7 9,mv 11 10,Gf 11 (fa 12 1 2),Gf 11 (ln 13 12),Gf 11 (le 14 13),Gf 11 (fa 15 1 3),Gf 11 (ln 16 15),
Gf 11 (le 17 16),Gf 11 (bt 18 .neq 14 17),fH 19 11 18] [2,3,19]
(Cd 19
(Sn [
Fl 4] [4]
.ret)
.skip))
(.seq
(Sn [
ic 5 0] [2,3,5]
(.block 0
(.loop [(2,none),(3,none),(5,none)]
(.seq
(Sn [
mv 20 5,fa 21 1 2,ln 22 21,le 23 22,bt 24 .lss 20 23] [2,3,5,24]
(Cd 24
.skip
(.exit 0)))
(.seq
(.block 1
(Ss [0,1,0,7,15,0,32,0,224,480,1023] [
fa 27 1 2,ln 28 27,mv 29 5,ia 30 3 28 29,ld 31 3 30,fa 32 1 3,ln 33 32,mv 34 5,ia 35 3 33 34,ld 36 3 35,
⟨some 37,.eqc 3 true (.t 31) (.t 36),none⟩] [2,3,5,37]
(Cd 37
(Sn [
Fl 4] [4]
.ret)
.skip)))
(Rn [
mv 25 5,bc 26 .add 25 1,mv 5 26] [2,3,5]))))))
(Sn [
Tr 4] [4]
.ret)))),
[.tmp 4]⟩
theorem aHz:ck x90 90:=by decide+kernel
def x91:aI:=⟨2,
(Sn [
bx 2 0,bx 3 1,Fl 4] [2,3]
(.seq
(Sn [
fa 6 0 2,ld 7 3 6,fa 8 0 3,ld 9 3 8,p2 10 150 7 9,No 11 10,mv 12 11,Gf 12 (fa 13 4 2),Gf 12 (ln 14 13),Gf 12 (fa 15 4 3),Gf 12 (ln 16 15),
Gf 12 (p2 17 151 14 16),Gf 12 (No 18 17),fH 19 12 18,mv 20 19,Gf 20 (fa 21 3 2),Gf 20 (ln 22 21),Gf 20 (le 23 22),Gf 20 (fa 24 3 3),Gf 20 (ln 25 24),
Gf 20 (le 26 25),Gf 20 (bt 27 .neq 23 26),fH 28 20 27] [2,3,28]
(Cd 28
(Sn [
Fl 4] [4]
.ret)
.skip))
(.seq
(Sn [
ic 5 0] [2,3,5]
(.block 0
(.loop [(2,none),(3,none),(5,none)]
(.seq
(Sn [
mv 29 5,fa 30 3 2,ln 31 30,le 32 31,bt 33 .lss 29 32] [2,3,5,33]
(Cd 33
.skip
(.exit 0)))
(.seq
(.block 1
(Ss [0,1,0,7,15,0,32,0,224,480,1023] [
fa 36 3 2,ln 37 36,mv 38 5,ia 39 5 37 38,ld 40 5 39,fa 41 3 3,ln 42 41,mv 43 5,ia 44 5 42 43,ld 45 5 44,
⟨some 46,.eqc 5 true (.t 40) (.t 45),none⟩] [2,3,5,46]
(Cd 46
(Sn [
Fl 4] [4]
.ret)
.skip)))
(Rn [
mv 34 5,bc 35 .add 34 1,mv 5 35] [2,3,5]))))))
(Sn [
Tr 4] [4]
.ret)))),
[.tmp 4]⟩
theorem aHA:ck x91 91:=by decide+kernel
def x92:aI:=⟨2,
(Sn [
bx 2 0,ic 4 0,ic 5 0] [1,2]
(.seq
(Sn [
ld 9 1 2,p1 10 104 9,mv 6 10] [1,2,6]
(Sn [
mv 11 6,bc 12 .neq 11 0] [1,2,6,12]
(Cd 12
(Sn [
mv 13 6,ic 4 0,mv 5 13] [4,5]
.ret)
.skip)))
(Sn [
ld 15 1 2,mv 16 1,p2 17 129 15 16,mv 14 17,ex 18 0 14,ex 19 1 14,mv 7 18,mv 8 19] [7,8]
(.seq
(Sn [
mv 20 8,No 21 20] [7,21]
(Cd 21
(Sn [
ic 4 0,ic 5 6] [4,5]
.ret)
.skip))
(Sn [
mv 22 7,mv 4 22,ic 5 0] [4,5]
.ret))))),
[.tmp 4,.tmp 5]⟩
theorem aHB:ck x92 92:=by decide+kernel
def x96:aI:=⟨2,
(Sn [
bx 2 0,Al 4 z5,ic 5 0] [1,2,4]
(Sn [
ld 9 1 2,mv 10 1,p2 11 92 9 10,mv 8 11,ex 12 0 8,ex 13 1 8,mv 6 12,mv 7 13] [2,4,6,7]
(.seq
(Sn [
mv 14 7,bc 15 .neq 14 0] [2,4,6,7,15]
(Cd 15
(Sn [
Bu 16 z5 [],mv 17 7,st 3 4 16,mv 5 17] [4,5]
.ret)
.skip))
(Sn [
fa 18 0 2,ln 19 18,mv 20 6,ia 21 3 19 20,ld 22 3 21,st 3 4 22,ic 5 0] [4,5]
.ret)))),
[.cell 4 (some 3),.tmp 5]⟩
theorem aHC:ck x96 96:=by decide+kernel
def x97:aI:=⟨3,
(Sn [
bx 3 0,bx 4 1,bx 5 2,Fl 6,ic 7 0] [3,4,5]
(.seq
(Sn [
ld 9 3 3,ld 10 3 4,ld 11 2 5,p3 12 152 9 10 11,mv 8 12] [3,4,5,8]
(Sn [
mv 13 8,bc 14 .neq 13 0] [3,4,5,8,14]
(Cd 14
(Sn [
mv 15 8,Fl 6,mv 7 15] [6,7]
.ret)
.skip)))
(Sn [
ld 16 3 3,ld 17 3 4,ld 18 2 5,p3 19 153 16 17 18,bc 20 .gtr 19 0,mv 6 20,ic 7 0] [6,7]
.ret))),
[.tmp 6,.tmp 7]⟩
theorem aHD:ck x97 97:=by decide+kernel
def aHE:aI:=⟨1,
(Sn [
bx 1 0,ic 2 0] [1]
(.seq
(Sn [
fa 8 0 1,ln 9 8,le 10 9,bc 11 .gtr 10 64] [1,11]
(Cd 11
(Sn [
ic 2 4] [2]
.ret)
.skip))
(.seq
(Sn [
fa 12 0 1,ln 13 12,le 14 13,ic 15 0] [1,13,14,15]
(.block 0
(.loop [(1,none),(13,none),(14,none),(15,none)]
(Sn [
bt 16 .lss 15 14] [1,13,14,15,16]
(.seq
(Cd 16
.skip
(.exit 0))
(.seq
(.block 1
(Sn [
ia 17 3 13 15,ld 18 3 17,Al 4 z5,st 3 4 18] [1,4,13,14,15]
(Sn [
ld 19 3 4,p1 20 128 19,mv 5 20] [1,5,13,14,15]
(Sn [
mv 21 5,bc 22 .neq 21 0] [1,5,13,14,15,22]
(Cd 22
(Sn [
mv 23 5,mv 2 23] [2]
.ret)
.skip)))))
(Rn [
bc 24 .add 15 1,mv 15 24] [1,13,14,15])))))))
(.seq
(Sn [
fa 25 0 1,ln 26 25,le 27 26,ic 28 0] [1,26,27,28]
(.block 2
(.loop [(1,none),(26,none),(27,none),(28,none)]
(Sn [
bt 29 .lss 28 27] [1,26,27,28,29]
(.seq
(Cd 29
.skip
(.exit 2))
(.seq
(.block 3
(Sn [
mv 30 28,ia 31 3 26 28,ld 32 3 31,Al 7 z5,mv 6 30,st 3 7 32] [1,6,7,26,27,28]
(Ss [0,1,3,7,15,7,39,127,255,511,7,1031,4095,8191] [
mv 33 6,bc 34 .gtr 33 0,mv 35 34,Gt 35 (fa 36 0 1),Gt 35 (ln 37 36),Gt 35 (mv 38 6),Gt 35 (bc 39 .sub 38 1),Gt 35 (ia 40 3 37 39),Gt 35 (fa 41 0 40),
Gt 35 (ln 42 41),Gt 35 (fa 43 0 7),Gt 35 (ln 44 43),Gt 35 (bt 45 .geq 42 44),rP 46 35 45] [1,26,27,28,46]
(Cd 46
(Sn [
ic 2 32] [2]
.ret)
.skip))))
(Rn [
bc 47 .add 28 1,mv 28 47] [1,26,27,28])))))))
(Sn [
ic 2 0] [2]
.ret))))),
[.tmp 2]⟩
theorem Z8:ck aHE 104:=by decide+kernel
def aHF:aI:=⟨1,
(Sn [
Al 2 z2,ic 3 0] [0,2]
(Sn [
mv 7 0,p1 8 155 7,mv 6 8,ex 9 0 6,ex 10 1 6,Al 4 z4,st 3 4 9,mv 5 10] [0,2,4,5]
(.seq
(Sn [
mv 11 5,bc 12 .neq 11 0] [0,2,4,5,12]
(Cd 12
(Sn [
Bu 13 z2 [],mv 14 5,st 5 2 13,mv 3 14] [2,3]
.ret)
.skip))
(Ss [0,0,0,6,15,31,63] [
ld 15 3 4,⟨some 16,.mkrow 1 1 [.int .i64 0] [(0,(.c (.int .i64 (-1))))],none⟩,mv 17 0,⟨some 18,.call .own 156 [(.t 16),(.t 17)],none⟩,
Bu 19 z2 [(0,3,(.t 15)),(4,1,(.t 18))],st 5 2 19,ic 3 0] [2,3]
.ret)))),
[.cell 2 (some 5),.tmp 3]⟩
theorem Z9:ck aHF 105:=by decide+kernel
def aHG:aI:=⟨2,
(Sn [
bx 2 0,
Al 4 z1,
ic 5 0] [1,2,4]
(.seq
(Sn [
ld 10 11 2,p1 11 59 10,mv 6 11] [1,2,4,6]
(Sn [
mv 12 6,bc 13 .neq 12 0] [1,2,4,6,13]
(Cd 13
(Sn [
Bu 14 z1 [],
mv 15 6,st 11 4 14,mv 5 15] [4,5]
.ret)
.skip)))
(Sn [
ld 17 11 2,mv 18 1,p2 19 137 17 18,mv 16 19,ex 20 0 16,ex 21 1 16,ex 22 2 16,
Al 7 z1,
Al 8 z8,st 11 7 20,st 2 8 21,mv 9 22] [4,7,9]
(Sn [
ld 23 11 7,mv 24 9,st 11 4 23,mv 5 24] [4,5]
.ret)))),
[.cell 4 (some 11),.tmp 5]⟩
theorem aAa:ck aHG 106:=by decide+kernel
def aHH:aI:=⟨2,
(Sn [
Fl 4] [0,1]
(.seq
(Sn [
mv 6 0,le 7 6,mv 8 1,le 9 8,bt 10 .neq 7 9] [0,1,10]
(Cd 10
(Sn [
Fl 4] [4]
.ret)
.skip))
(.seq
(Sn [
mv 11 0,le 12 11,ic 13 0] [0,1,12,13]
(.block 0
(.loop [(0,none),(1,none),(12,none),(13,none)]
(Sn [
bt 14 .lss 13 12] [0,1,12,13,14]
(.seq
(Cd 14
.skip
(.exit 0))
(.seq
(.block 1
(Sn [
mv 15 13,mv 5 15] [0,1,5,12,13]
(Ss [0,0,3,7,0,0,48,112,255] [
mv 16 0,mv 17 5,ia 18 3 16 17,ld 19 3 18,mv 20 1,mv 21 5,ia 22 3 20 21,ld 23 3 22,⟨some 24,.eqc 3 true (.t 19) (.t 23),none⟩] [0,1,12,13,24]
(Cd 24
(Sn [
Fl 4] [4]
.ret)
.skip))))
(Rn [
bc 25 .add 13 1,mv 13 25] [0,1,12,13])))))))
(Sn [
Tr 4] [4]
.ret)))),
[.tmp 4]⟩
theorem aAb:ck aHH 107:=by decide+kernel
def aHI:aI:=⟨2,
(Sn [
bx 2 0,bx 3 1,
Al 4 z1,
ic 5 0] [2,3,4]
(.seq
(Sn [
ld 19 11 2,p1 20 59 19,mv 6 20] [2,3,4,6]
(Sn [
mv 21 6,bc 22 .neq 21 0] [2,3,4,6,22]
(Cd 22
(Sn [
Bu 23 z1 [],
mv 24 6,st 11 4 23,mv 5 24] [4,5]
.ret)
.skip)))
(.seq
(Sn [
ld 25 1 3,p1 26 104 25,mv 7 26] [2,3,4,7]
(Sn [
mv 27 7,bc 28 .neq 27 0] [2,3,4,7,28]
(Cd 28
(Sn [
Bu 29 z1 [],
mv 30 7,st 11 4 29,mv 5 30] [4,5]
.ret)
.skip)))
(.seq
(Sn [
fa 31 3 2,fa 32 1 31,ln 33 32,le 34 33,ic 35 0] [2,3,4,33,34,35]
(.block 0
(.loop [(2,none),(3,none),(4,none),(33,none),(34,none),(35,none)]
(Sn [
bt 36 .lss 35 34] [2,3,4,33,34,35,36]
(.seq
(Cd 36
.skip
(.exit 0))
(.seq
(.block 1
(Sn [
ia 37 3 33 35,ld 38 3 37,Al 9 z5,st 3 9 38] [2,3,4,9,33,34,35]
(Sn [
ld 39 1 3,fa 40 1 9,fa 41 0 40,ln 42 41,p2 43 157 39 42,⟨some 44,.fld none 0 (.t 43),none⟩,bc 45 .lss 44 0,mv 46 45,Gf 46 (ld 47 1 3),
Gf 46 (fa 48 1 9),Gf 46 (fa 49 1 48),Gf 46 (ln 50 49),Gf 46 (p2 51 157 47 50),Gf 46 (⟨some 52,.fld none 0 (.t 51),none⟩),Gf 46 (bc 53 .lss 52 0),
fH 54 46 53] [2,3,4,33,34,35,54]
(Cd 54
(Sn [
Bu 55 z1 [],
st 11 4 55,ic 5 6] [4,5]
.ret)
.skip))))
(Rn [
bc 56 .add 35 1,mv 35 56] [2,3,4,33,34,35])))))))
(Sn [
ld 57 11 2,p1 58 83 57,
Al 10 z1,
st 11 10 58] [2,3,4,10]
(Sn [
fa 59 0 3,ln 60 59,p1 61 94 60,Bu 62 [.sl 3 true []] [(0,1,(.t 61))],fa 63 2 10,st 1 63 62,fa 64 10 10,
⟨none,.store 1 (.t 64) (.c (.sl 3 true [])),none⟩] [2,3,4,10]
(.seq
(Sn [
fa 65 3 2,fa 66 1 65,ln 67 66,le 68 67,ic 69 0] [2,3,4,10,67,68,69]
(.block 2
(.loop [(2,none),(3,none),(4,none),(10,none),(67,none),(68,none),(69,none),(10,some 11003)]
(Sn [
bt 70 .lss 69 68] [2,3,4,10,67,68,69,70]
(.seq
(Cd 70
.skip
(.exit 2))
(.seq
(.block 3
(Sn [
ia 71 3 67 69,ld 72 3 71,Al 12 z5,st 3 12 72] [2,3,4,10,12,67,68,69]
(Sn [
ld 74 1 3,fa 75 1 12,ld 76 2 75,fa 77 0 2,ld 78 2 77,p3 79 119 74 76 78,mv 73 79,ex 80 0 73,ex 81 1 73,ex 82 2 73,Al 13 z8,
st 2 13 80,mv 14 81,mv 15 82] [2,3,4,10,12,13,14,15,67,68,69]
(Sn [
fa 84 10 2,ln 85 84,fa 86 0 12,ln 87 86,p2 88 158 85 87,mv 83 88,ex 89 0 83,ex 90 1 83,mv 16 89,
mv 17 90] [2,3,4,10,12,13,14,15,16,17,67,68,69]
(.seq
(.block 4
(Sn [
mv 92 14,mv 93 92,Gt 93 (mv 94 17),rP 95 93 94,mv 91 95] [2,3,4,10,12,13,14,15,16,17,67,68,69,91]
(Cd 91
(Ss [0,1,0,4,0,28,60,124,0,511,1023,2047,2047,4095,12287,32767] [
fa 97 5 10,ld 98 5 97,fa 99 10 2,ln 100 99,mv 101 16,ia 102 3 100 101,fa 103 1 102,ld 104 2 103,ld 105 2 13,p3 106 159 98 104 105,mv 96 106,
ex 107 0 96,ex 108 1 96,fa 109 5 10,st 5 109 107,mv 15 108] [2,3,4,10,15,16,67,68,69]
(Rs [0,1,0,4,0,28,60,124,255,511,1023] [
fa 110 10 10,ln 111 110,fa 112 10 2,ln 113 112,mv 114 16,ia 115 3 113 114,ld 116 3 115,
⟨some 117,.mkrow 3 1 z5 [(0,(.t 116))],none⟩,ap 118 3 111 117,fa 119 10 10,
st 1 119 118] [2,3,4,10,15,67,68,69]))
(Sn [
mv 121 14,mv 120 121] [2,3,4,10,12,13,15,16,17,67,68,69,120]
(Cd 120
(Sn [
Al 18 z5] [2,3,4,10,12,13,18,67,68,69]
(Sn [
fa 122 0 12,ln 123 122,fa 124 0 18,st 1 124 123] [2,3,4,10,12,13,18,67,68,69]
(Sn [
fa 126 5 10,ld 127 5 126,ld 128 2 13,fa 129 0 12,ln 130 129,p3 131 160 127 128 130,mv 125 131,ex 132 0 125,ex 133 1 125,ex 134 2 125,fa 135 5 10,
st 5 135 132,fa 136 1 18,st 2 136 133,mv 15 134] [2,3,4,10,15,18,67,68,69]
(Rn [
fa 137 10 10,ln 138 137,ld 139 3 18,⟨some 140,.mkrow 3 1 z5 [(0,(.t 139))],none⟩,ap 141 3 138 140,fa 142 10 10,
st 1 142 141] [2,3,4,10,15,67,68,69]))))
(Sn [
mv 144 17,mv 143 144] [2,3,4,10,15,16,67,68,69,143]
(Cd 143
(Rs [0,1,0,4,0,28,60,124,255,511,1023,1023,1023,2047,10239,32767] [
fa 146 5 10,ld 147 5 146,fa 148 10 2,ln 149 148,mv 150 16,ia 151 3 149 150,fa 152 1 151,ld 153 2 152,p2 154 161 147 153,mv 145 154,ex 155 0 145,
ex 156 1 145,ex 157 2 145,fa 158 5 10,st 5 158 155,mv 15 157] [2,3,4,10,15,67,68,69])
.skip)))))))
(Sn [
mv 159 15,bc 160 .neq 159 0] [2,3,4,10,15,67,68,69,160]
(Cd 160
(Sn [
Bu 161 z1 [],
mv 162 15,st 11 4 161,mv 5 162] [4,5]
.ret)
.skip)))))))
(Rn [
bc 163 .add 69 1,mv 69 163] [2,3,4,10,67,68,69])))))))
(Sn [
ld 164 11 10,st 11 4 164,ic 5 0] [4,5]
.ret)))))))),
[.cell 4 (some 11),.tmp 5]⟩
theorem aAc:ck aHI 108:=by decide+kernel
def aHJ:aI:=⟨2,
(Sn [
Fl 4] [0,1]
(Sn [
mv 5 0,mv 6 1,p2 7 162 5 6,bc 8 .geq 7 0,mv 4 8] [4]
.ret)),
[.tmp 4]⟩
theorem aAd:ck aHJ 109:=by decide+kernel
def aHK:aI:=⟨2,
(Sn [
bx 2 0,Fl 3] [1,2]
(Sn [
fa 4 1 2,ld 5 2 4,ld 6 2 1,⟨some 7,.eqc 2 false (.t 5) (.t 6),none⟩,mv 3 7] [3]
.ret)),
[.tmp 3]⟩
theorem aAe:ck aHK 110:=by decide+kernel
def aHL:aI:=⟨2,
(Sn [
bx 2 0,bx 3 1,
Al 4 z1,
ic 5 0,ic 6 0] [2,3,4]
(Sn [
⟨some 7,.mov (.c (.clo 163 [] [])),none⟩] [2,3,4,7]
(.seq
(Sn [
ld 18 11 2,p1 19 59 18,mv 8 19] [2,3,4,7,8]
(Sn [
mv 20 8,bc 21 .neq 20 0] [2,3,4,7,8,21]
(Cd 21
(Sn [
mv 22 7,mv 23 8,⟨some 24,.callv (.t 22) [(.t 23)],none⟩,ex 25 0 24,ex 26 1 24,ex 27 2 24,st 11 4 25,mv 5 26,mv 6 27] [4,5,6]
.ret)
.skip)))
(Sn [
fa 29 3 2,ld 30 2 29,ld 31 2 3,p2 32 164 30 31,mv 28 32,ex 33 0 28,ex 34 1 28,ex 35 2 28,Al 9 z7,st 2 9 33,mv 10 34,
mv 11 35] [2,3,4,7,9,10,11]
(.seq
(Sn [
mv 36 11,bc 37 .eql 36 8] [2,3,4,7,9,10,11,37]
(Cd 37
(Sn [
mv 38 7,mv 39 11,⟨some 40,.callv (.t 38) [(.t 39)],none⟩,ex 41 0 40,ex 42 1 40,ex 43 2 40,st 11 4 41,mv 5 42,mv 6 43] [4,5,6]
.ret)
.skip))
(.seq
(Sn [
fa 44 2 2,ld 45 1 44,fa 46 0 3,ln 47 46,p2 48 157 45 47,⟨some 49,.fld none 0 (.t 48),none⟩,bc 50 .lss 49 0,mv 51 50,Gf 51 (fa 52 2 2),
Gf 51 (ld 53 1 52),Gf 51 (fa 54 1 3),Gf 51 (ln 55 54),Gf 51 (p2 56 157 53 55),Gf 51 (⟨some 57,.fld none 0 (.t 56),none⟩),Gf 51 (bc 58 .lss 57 0),
fH 59 51 58] [2,3,4,7,9,10,11,59]
(Cd 59
(Sn [
mv 60 7,⟨some 61,.callv (.t 60) [(.c (.int .i64 6))],none⟩,ex 62 0 61,ex 63 1 61,ex 64 2 61,st 11 4 62,mv 5 63,mv 6 64] [4,5,6]
.ret)
.skip))
(.seq
(Sn [
mv 65 11,bc 66 .neq 65 0] [2,3,4,7,9,10,11,66]
(Cd 66
(Sn [
mv 67 7,mv 68 11,⟨some 69,.callv (.t 67) [(.t 68)],none⟩,ex 70 0 69,ex 71 1 69,ex 72 2 69,st 11 4 70,mv 5 71,mv 6 72] [4,5,6]
.ret)
.skip))
(Sn [
ld 73 11 2,⟨some 74,.call .own 83 [(.t 73)],none⟩,
Al 12 z1,
st 11 12 74] [2,3,4,7,9,10,12]
(Sn [
ld 75 2 9,fa 76 3 12,st 2 76 75] [2,3,4,7,10,12]
(Sn [
fa 78 2 2,ld 79 1 78,ld 80 2 3,fa 81 0 2,ld 82 2 81,p3 83 119 79 80 82,mv 77 83,ex 84 0 77,ex 85 1 77,ex 86 2 77,Al 13 z8,
st 2 13 84,mv 14 85,mv 11 86] [2,4,7,10,11,12,13,14]
(.seq
(Sn [
mv 87 11,bc 88 .neq 87 0] [2,4,7,10,11,12,13,14,88]
(Cd 88
(Sn [
mv 89 7,mv 90 11,⟨some 91,.callv (.t 89) [(.t 90)],none⟩,ex 92 0 91,ex 93 1 91,ex 94 2 91,st 11 4 92,mv 5 93,mv 6 94] [4,5,6]
.ret)
.skip))
(.seq
(Sn [
mv 95 14] [2,4,7,10,12,13,95]
(Cd 95
(Sn [
fa 97 5 2,ld 98 5 97,ld 99 2 13,mv 100 10,p3 101 160 98 99 100,mv 96 101,ex 102 0 96,ex 103 1 96,ex 104 2 96,
Al 15 z2,Al 16 z8,st 5 15 102,st 2 16 103,
mv 17 104] [4,7,10,12,15,16,17]
(.seq
(Sn [
mv 105 17,bc 106 .neq 105 0] [4,7,10,12,15,16,17,106]
(Cd 106
(Sn [
mv 107 7,mv 108 17,⟨some 109,.callv (.t 107) [(.t 108)],none⟩,ex 110 0 109,ex 111 1 109,ex 112 2 109,st 11 4 110,mv 5 111,mv 6 112] [4,5,6]
.ret)
.skip))
(Rs [0,0,2,0,0,24,56,126,7,511,1023,2047] [
ld 113 5 15,fa 114 10 12,ln 115 114,mv 116 10,ld 117 2 16,Bu 118 z5 [(0,1,(.t 116)),(1,2,(.t 117))],
⟨some 119,.mkrow 3 1 z5 [(0,(.t 118))],none⟩,ap 120 3 115 119,fa 121 5 12,st 5 121 113,fa 122 10 12,
st 1 122 120] [4,10,12])))
.skip))
(Sn [
ld 123 11 12,mv 124 10,st 11 4 123,mv 5 124,ic 6 0] [4,5,6]
.ret))))))))))))),
[.cell 4 (some 11),.tmp 5,.tmp 6]⟩
theorem aAf:ck aHL 111:=by decide+kernel
def aHM:aI:=⟨1,
(Sn [
bx 1 0,ic 2 0] [1]
(.seq
(Sn [
fa 3 0 1,ln 4 3,bc 5 .lss 4 0,mv 6 5,Gf 6 (fa 7 0 1),Gf 6 (ln 8 7),Gf 6 (bc 9 .gtr 8 65535),fH 10 6 9,mv 11 10,Gf 11 (fa 12 1 1),Gf 11 (ln 13 12),
Gf 11 (bc 14 .lss 13 (-1048576)),fH 15 11 14,mv 16 15,Gf 16 (fa 17 1 1),Gf 16 (ln 18 17),Gf 16 (bc 19 .gtr 18 1048576),fH 20 16 19,mv 21 20,
Gf 21 (fa 22 2 1),Gf 21 (ln 23 22),Gf 21 (bc 24 .lss 23 (-1048576)),fH 25 21 24,mv 26 25,Gf 26 (fa 27 2 1),Gf 26 (ln 28 27),
Gf 26 (bc 29 .gtr 28 1048576),fH 30 26 29] [30]
(Cd 30
(Sn [
ic 2 8] [2]
.ret)
.skip))
(Sn [
ic 2 0] [2]
.ret))),
[.tmp 2]⟩
theorem aAg:ck aHM 112:=by decide+kernel
def aHN:aI:=⟨2,
(Sn [
⟨some 4,.mov (.c (.int .u64 0)),none⟩] [0,1]
(.seq
(.block 0
(.loop [(0,none),(1,none)]
(.seq
(Sn [
mv 5 1,⟨some 6,.bin .neq (.t 5) (.c (.int .u64 0)),none⟩] [0,1,6]
(Cd 6
.skip
(.exit 0)))
(.block 1
(Rs [0,0,0,6,3,31] [
mv 7 1,mv 8 0,mv 9 1,bt 10 .rem 8 9,mv 0 7,mv 1 10] [0,1])))))
(Sn [
mv 11 0,mv 4 11] [4]
.ret))),
[.tmp 4]⟩
theorem aAh:ck aHN 113:=by decide+kernel
def aHO:aI:=⟨1,
(Sn [
⟨some 2,.mov (.c (.int .u64 0)),none⟩] [0]
(.seq
(Sn [
mv 3 0,bc 4 .lss 3 0] [0,4]
(Cd 4
(Sn [
mv 5 0,bc 6 .add 5 1,⟨some 7,.un .neg (.t 6),none⟩,⟨some 8,.conv .u64 (.t 7),none⟩,⟨some 9,.bin .add (.t 8) (.c (.int .u64 1)),none⟩,mv 2 9] [2]
.ret)
.skip))
(Sn [
mv 10 0,⟨some 11,.conv .u64 (.t 10),none⟩,mv 2 11] [2]
.ret))),
[.tmp 2]⟩
theorem aAi:ck aHO 114:=by decide+kernel
def aHP:aI:=⟨2,
(Sn [
bx 2 0,bx 3 1,
Al 4 z1] [2,3,4]
(Ss [0,0,2,6,15,31] [
ld 5 2 3,ld 6 1 2,⟨some 7,.call .own 72 [(.t 6)],none⟩,⟨some 8,.call .pur 165 [(.c (.int .i64 200))],none⟩,
Bu 9 z1 [(0,2,(.t 5)),(2,1,(.t 7)),(5,5,(.t 8))],
st 11 4 9] [4]
.ret)),
[.cell 4 (some 11)]⟩
theorem aAj:ck aHP 115:=by decide+kernel
def aHQ:aI:=⟨1,
(Sn [
bx 1 0,Al 2 z3,ic 3 0] [1,2]
(.seq
(Sn [
ld 5 5 1,p1 6 118 5,mv 4 6] [1,2,4]
(Sn [
mv 7 4,bc 8 .neq 7 0] [1,2,4,8]
(Cd 8
(Sn [
Bu 9 z3 [],mv 10 4,st 5 2 9,mv 3 10] [2,3]
.ret)
.skip)))
(.seq
(Sn [
fa 11 3 1,ln 12 11,le 13 12,bc 14 .eql 13 0] [1,2,14]
(Cd 14
(Sn [
Bu 15 z3 [],st 5 2 15,ic 3 42] [2,3]
.ret)
.skip))
(Sn [
fa 16 3 1,ln 17 16,⟨some 18,.iadr 5 (.t 17) (.c (.int .i64 0)),none⟩,ld 19 5 18,st 5 2 19,ic 3 0] [2,3]
.ret)))),
[.cell 2 (some 5),.tmp 3]⟩
theorem aAk:ck aHQ 116:=by decide+kernel
def aHR:aI:=⟨1,
(Sn [
bx 1 0,ic 2 0] [1]
(.seq
(Sn [
fa 7 1 1,ln 8 7,le 9 8,bc 10 .gtr 9 200,mv 11 10,Gf 11 (fa 12 0 1),Gf 11 (ln 13 12),Gf 11 (bc 14 .lss 13 0),fH 15 11 14,mv 16 15,Gf 16 (fa 17 0 1),
Gf 16 (ln 18 17),Gf 16 (bc 19 .gtr 18 1000000),fH 20 16 19] [1,20]
(Cd 20
(Sn [
ic 2 8] [2]
.ret)
.skip))
(Sn [
⟨some 21,.mkm,none⟩,mv 3 21,ic 4 (-1)] [1,3,4]
(.seq
(Sn [
fa 22 1 1,ln 23 22,le 24 23,ic 25 0] [1,3,4,23,24,25]
(.block 0
(.loop [(1,none),(3,none),(4,none),(23,none),(24,none),(25,none)]
(Sn [
bt 26 .lss 25 24] [1,3,4,23,24,25,26]
(.seq
(Cd 26
.skip
(.exit 0))
(.seq
(.block 1
(Sn [
ia 27 3 23 25,ld 28 3 27,Al 6 z5,st 3 6 28] [1,3,4,6,23,24,25]
(.seq
(Sn [
fa 29 1 6,ld 30 2 29,p1 31 166 30,No 32 31,mv 33 32,Gf 33 (mv 34 3),Gf 33 (fa 35 1 6),Gf 33 (ld 36 2 35),
Gf 33 (⟨some 37,.lookup (some 2) (.bool false) false (.t 34) (.t 36),none⟩),fH 38 33 37,mv 39 38,Gf 39 (fa 40 0 6),Gf 39 (ln 41 40),Gf 39 (mv 42 4),
Gf 39 (bt 43 .leq 41 42),fH 44 39 43,mv 45 44,Gf 45 (fa 46 0 6),Gf 45 (ln 47 46),Gf 45 (fa 48 0 1),Gf 45 (ln 49 48),Gf 45 (bt 50 .geq 47 49),
fH 51 45 50] [1,3,6,23,24,25,51]
(Cd 51
(Sn [
ic 2 8] [2]
.ret)
.skip))
(Rs [0,0,2,0,8,7,63] [
mv 52 3,fa 53 1 6,ld 54 2 53,fa 55 0 6,ln 56 55,⟨none,.mapu (some 2) (.t 52) (.t 54) (.c (.bool true)),none⟩,mv 4 56] [1,3,4,23,24,25]))))
(Rn [
bc 57 .add 25 1,mv 25 57] [1,3,4,23,24,25])))))))
(Sn [
ic 2 0] [2]
.ret))))),
[.tmp 2]⟩
theorem aAl:ck aHR 117:=by decide+kernel
def aHS:aI:=⟨1,
(Sn [
bx 1 0,ic 2 0] [1]
(.seq
(Sn [
fa 8 0 1,ld 9 3 8,p1 10 167 9,bc 11 .neq 10 0,mv 12 11,Gf 12 (fa 13 4 1),Gf 12 (ln 14 13),Gf 12 (le 15 14),Gf 12 (fa 16 0 1),Gf 12 (fa 17 1 16),
Gf 12 (ln 18 17),Gf 12 (le 19 18),Gf 12 (bt 20 .neq 15 19),fH 21 12 20,mv 22 21,Gf 22 (fa 23 3 1),Gf 22 (ln 24 23),Gf 22 (le 25 24),Gf 22 (fa 26 0 1),
Gf 22 (fa 27 1 26),Gf 22 (ln 28 27),Gf 22 (le 29 28),Gf 22 (fa 30 0 1),Gf 22 (fa 31 2 30),Gf 22 (ln 32 31),Gf 22 (le 33 32),Gf 22 (bt 34 .sub 29 33),
Gf 22 (bt 35 .neq 25 34),fH 36 22 35] [1,36]
(Cd 36
(Sn [
ic 2 8] [2]
.ret)
.skip))
(.seq
(Sn [
fa 37 4 1,ln 38 37,le 39 38,ic 40 0] [1,38,39,40]
(.block 0
(.loop [(1,none),(38,none),(39,none),(40,none)]
(Sn [
bt 41 .lss 40 39] [1,38,39,40,41]
(.seq
(Cd 41
.skip
(.exit 0))
(.seq
(.block 1
(Sn [
mv 42 40,ia 43 1 38 40,ln 44 43,mv 3 42,mv 4 44] [1,3,4,38,39,40]
(.seq
(Sn [
fa 45 0 1,fa 46 1 45,ln 47 46,mv 48 3,ia 49 1 47 48,ln 50 49,No 51 50] [1,3,4,38,39,40,51]
(Cd 51
(.seq
(Sn [
mv 52 4,bc 53 .neq 52 (-1)] [1,38,39,40,53]
(Cd 53
(Sn [
ic 2 8] [2]
.ret)
.skip))
(.exit 1))
.skip))
(Ss [0,1,3,7,7,23,55,127,255,511,1023,2047,1023,8191,16383,32767,1023,1023,132095,394239,1023,1967103,4064255,8324095,16777215,33554431] [
mv 54 4,bc 55 .lss 54 0,mv 56 55,Gf 56 (mv 57 4),Gf 56 (fa 58 3 1),Gf 56 (ln 59 58),Gf 56 (le 60 59),Gf 56 (bt 61 .geq 57 60),fH 62 56 61,mv 63 62,
Gf 63 (fa 64 3 1),Gf 63 (ln 65 64),Gf 63 (mv 66 4),Gf 63 (ia 67 5 65 66),Gf 63 (fa 68 3 67),Gf 63 (ld 69 2 68),Gf 63 (mv 70 3),Gf 63 (fa 71 0 1),
Gf 63 (fa 72 0 71),Gf 63 (ln 73 72),Gf 63 (mv 74 3),Gf 63 (ia 75 1 73 74),Gf 63 (ln 76 75),
Gf 63 (Bu 77 z8 [(0,1,(.t 70)),(1,1,(.t 76))]),Gf 63 (⟨some 78,.eqc 2 true (.t 69) (.t 77),none⟩),
fH 79 63 78] [1,38,39,40,79]
(Cd 79
(Sn [
ic 2 8] [2]
.ret)
.skip)))))
(Rn [
bc 80 .add 40 1,mv 40 80] [1,38,39,40])))))))
(Sn [
⟨some 81,.mkm,none⟩,mv 5 81] [1,5]
(.seq
(Sn [
fa 82 3 1,ln 83 82,le 84 83,ic 85 0] [1,5,83,84,85]
(.block 2
(.loop [(1,none),(5,none),(83,none),(84,none),(85,none)]
(Sn [
bt 86 .lss 85 84] [1,5,83,84,85,86]
(.seq
(Cd 86
.skip
(.exit 2))
(.seq
(.block 3
(Sn [
mv 87 85,ia 88 5 83 85,ld 89 5 88,Al 7 z3,mv 6 87,st 5 7 89] [1,5,6,7,83,84,85]
(.seq
(Sn [
fa 90 0 7,ld 91 2 90,p1 92 33 91,bc 93 .neq 92 0,mv 94 93,Gf 94 (fa 95 2 7),Gf 94 (ln 96 95),Gf 94 (bc 97 .lss 96 0),fH 98 94 97,mv 99 98,
Gf 99 (fa 100 2 7),Gf 99 (ln 101 100),Gf 99 (bc 102 .gtr 101 1000000),fH 103 99 102,mv 104 103,Gf 104 (mv 105 5),Gf 104 (fa 106 2 7),
Gf 104 (ln 107 106),Gf 104 (⟨some 108,.lookup none (.bool false) false (.t 105) (.t 107),none⟩),fH 109 104 108] [1,5,6,7,83,84,85,109]
(Cd 109
(Sn [
ic 2 8] [2]
.ret)
.skip))
(Sn [
mv 110 5,fa 111 2 7,ln 112 111,⟨none,.mapu none (.t 110) (.t 112) (.c (.bool true)),none⟩] [1,5,6,7,83,84,85]
(Ss [0,1,3,7,7,23,7,71,199,503,1015,2047,4095,8191] [
mv 113 6,bc 114 .gtr 113 0,mv 115 114,Gt 115 (ld 116 5 7),Gt 115 (fa 117 3 1),Gt 115 (ln 118 117),Gt 115 (mv 119 6),Gt 115 (bc 120 .sub 119 1),
Gt 115 (bc 121 .quo 120 2),Gt 115 (ia 122 5 118 121),Gt 115 (ld 123 5 122),Gt 115 (p2 124 168 116 123),Gt 115 (bc 125 .lss 124 0),
rP 126 115 125] [1,5,83,84,85,126]
(Cd 126
(Sn [
ic 2 8] [2]
.ret)
.skip))))))
(Rn [
bc 127 .add 85 1,mv 85 127] [1,5,83,84,85])))))))
(Sn [
ic 2 0] [2]
.ret)))))),
[.tmp 2]⟩
theorem aAm:ck aHS 118:=by decide+kernel
def aHT:aI:=⟨3,
(Sn [
bx 3 0,bx 4 1,bx 5 2,Al 6 z8,Fl 7,ic 8 0] [3,4,5,6]
(Ss [0,0,2,7,0,0,32,127,0,511,1023,1023,1023,8191,16383,32767] [
ld 9 1 3,fa 10 1 4,ln 11 10,p2 12 157 9 11,ld 13 1 3,fa 14 0 4,ln 15 14,p2 16 157 13 15,ld 17 2 5,p3 18 169 12 16 17,ex 19 0 18,ex 20 1 18,
ex 21 2 18,st 2 6 19,mv 7 20,mv 8 21] [6,7,8]
.ret)),
[.cell 6 (some 2),.tmp 7,.tmp 8]⟩
theorem aAn:ck aHT 119:=by decide+kernel
def aHU:aI:=⟨2,
(Sn [
bx 3 1,ic 4 0] [0,3]
(.seq
(Sn [
mv 6 0,le 7 6,ic 8 0] [0,3,7,8]
(.block 0
(.loop [(0,none),(3,none),(7,none),(8,none)]
(Sn [
bt 9 .lss 8 7] [0,3,7,8,9]
(.seq
(Cd 9
.skip
(.exit 0))
(.seq
(.block 1
(Sn [
mv 10 8,mv 5 10] [0,3,5,7,8]
(Ss [0,0,0,6,14,31] [
ld 11 2 3,mv 12 0,mv 13 5,ia 14 2 12 13,ld 15 2 14,⟨some 16,.eqc 2 false (.t 11) (.t 15),none⟩] [0,3,5,7,8,16]
(Cd 16
(Sn [
mv 17 5,mv 4 17] [4]
.ret)
.skip))))
(Rn [
bc 18 .add 8 1,mv 8 18] [0,3,7,8])))))))
(Sn [
ic 4 (-1)] [4]
.ret))),
[.tmp 4]⟩
theorem aAo:ck aHU 120:=by decide+kernel
def aHV:aI:=⟨1,
(Sn [
bx 1 0,ic 2 0] [1]
(.seq
(Sn [
fa 6 1 1,ln 7 6,le 8 7,bc 9 .gtr 8 200,mv 10 9,Gf 10 (fa 11 0 1),Gf 10 (ln 12 11),Gf 10 (bc 13 .lss 12 0),fH 14 10 13,mv 15 14,Gf 15 (fa 16 0 1),
Gf 15 (ln 17 16),Gf 15 (bc 18 .gtr 17 1000000),fH 19 15 18] [1,19]
(Cd 19
(Sn [
ic 2 8] [2]
.ret)
.skip))
(.seq
(Sn [
ic 3 0] [1,3]
(.block 0
(.loop [(1,none),(3,none)]
(.seq
(Sn [
mv 20 3,fa 21 1 1,ln 22 21,le 23 22,bt 24 .lss 20 23] [1,3,24]
(Cd 24
.skip
(.exit 0)))
(.seq
(.block 1
(Sn [
fa 27 1 1,ln 28 27,mv 29 3,ia 30 3 28 29,ld 31 3 30,Al 4 z5,st 3 4 31] [1,3,4]
(.seq
(Ss [0,1,3,7,15,31,63,127,255,511,1023,2047,1023,5119,16383,32767,65535,131071,262143,524287,1048575,2097151,1048575,5242879,16777215,33554431,67108863,1048575,135266303,536870911,1073741823,2147483647] [
fa 32 1 4,ld 33 2 32,p1 34 170 33,No 35 34,mv 36 35,Gf 36 (fa 37 0 4),Gf 36 (ln 38 37),Gf 36 (bc 39 .lss 38 0),fH 40 36 39,mv 41 40,
Gf 41 (fa 42 0 4),Gf 41 (ln 43 42),Gf 41 (fa 44 0 1),Gf 41 (ln 45 44),Gf 41 (bt 46 .geq 43 45),fH 47 41 46,mv 48 47,Gf 48 (mv 49 3),
Gf 48 (bc 50 .gtr 49 0),Gf 48 (mv 51 50),Gt 51 (fa 52 1 1),Gt 51 (ln 53 52),Gt 51 (mv 54 3),Gt 51 (bc 55 .sub 54 1),Gt 51 (ia 56 3 53 55),
Gt 51 (fa 57 0 56),Gt 51 (ln 58 57),Gt 51 (fa 59 0 4),Gt 51 (ln 60 59),Gt 51 (bt 61 .geq 58 60),Gf 48 (rP 62 51 61),fH 63 48 62] [1,3,4,63]
(Cd 63
(Sn [
ic 2 8] [2]
.ret)
.skip))
(Sn [
ic 5 0] [1,3,4,5]
(.block 2
(.loop [(1,none),(3,none),(4,none),(5,none)]
(.seq
(Sn [
mv 64 5,mv 65 3,bt 66 .lss 64 65] [1,3,4,5,66]
(Cd 66
.skip
(.exit 2)))
(.seq
(.block 3
(Ss [0,1,0,7,15,31,0,64,255] [
fa 69 1 1,ln 70 69,mv 71 5,ia 72 3 70 71,fa 73 1 72,ld 74 2 73,fa 75 1 4,ld 76 2 75,⟨some 77,.eqc 2 false (.t 74) (.t 76),none⟩] [1,3,4,5,77]
(Cd 77
(Sn [
ic 2 8] [2]
.ret)
.skip)))
(Rn [
mv 67 5,bc 68 .add 67 1,mv 5 68] [1,3,4,5])))))))))
(Rn [
mv 25 3,bc 26 .add 25 1,mv 3 26] [1,3]))))))
(Sn [
ic 2 0] [2]
.ret)))),
[.tmp 2]⟩
theorem aAp:ck aHV 121:=by decide+kernel
def aHW:aI:=⟨2,
(Sn [
bx 2 0,bx 3 1,Fl 4] [2,3]
(.seq
(Sn [
ic 5 0] [2,3,5]
(.block 0
(.loop [(2,none),(3,none),(5,none)]
(.seq
(Sn [
mv 6 5,fa 7 1 2,ln 8 7,le 9 8,bt 10 .lss 6 9] [2,3,5,10]
(Cd 10
.skip
(.exit 0)))
(.seq
(.block 1
(Ss [0,0,2,0,14,30,62,126,255,511,1023,2047,2047,6143,2047,30719,63487,129023,260095,524287,1048575,2097151] [
ld 13 1 3,fa 14 1 2,ln 15 14,mv 16 5,ia 17 3 15 16,fa 18 1 17,fa 19 0 18,ln 20 19,p2 21 64 13 20,bc 22 .lss 21 0,mv 23 22,Gf 23 (ld 24 1 3),
Gf 23 (fa 25 1 2),Gf 23 (ln 26 25),Gf 23 (mv 27 5),Gf 23 (ia 28 3 26 27),Gf 23 (fa 29 1 28),Gf 23 (fa 30 1 29),Gf 23 (ln 31 30),Gf 23 (p2 32 64 24 31),
Gf 23 (bc 33 .lss 32 0),fH 34 23 33] [2,3,5,34]
(Cd 34
(Sn [
Fl 4] [4]
.ret)
.skip)))
(Rn [
mv 11 5,bc 12 .add 11 1,mv 5 12] [2,3,5]))))))
(Sn [
Tr 4] [4]
.ret))),
[.tmp 4]⟩
theorem aAq:ck aHW 122:=by decide+kernel
def aHX:aI:=⟨1,
(Sn [
bx 1 0,ic 2 0] [1]
(.seq
(Sn [
fa 7 0 1,ld 8 3 7,p1 9 171 8,bc 10 .neq 9 0,mv 11 10,Gf 11 (ld 12 5 1),Gf 11 (p1 13 172 12),Gf 11 (No 14 13),fH 15 11 14] [1,15]
(Cd 15
(Sn [
ic 2 8] [2]
.ret)
.skip))
(.seq
(Sn [
ic 3 0] [1,3]
(.block 0
(.loop [(1,none),(3,none)]
(.seq
(Sn [
mv 16 3,fa 17 3 1,ln 18 17,le 19 18,bt 20 .lss 16 19] [1,3,20]
(Cd 20
.skip
(.exit 0)))
(.seq
(.block 1
(Sn [
fa 23 3 1,ln 24 23,mv 25 3,ia 26 5 24 25,ld 27 5 26,Al 4 z3,st 5 4 27] [1,3,4]
(.seq
(Sn [
fa 28 0 4,ld 29 2 28,p1 30 55 29,bc 31 .neq 30 0,mv 32 31,Gf 32 (fa 33 2 4),Gf 32 (ln 34 33),Gf 32 (bc 35 .lss 34 0),fH 36 32 35,mv 37 36,
Gf 37 (fa 38 2 4),Gf 37 (ln 39 38),Gf 37 (bc 40 .gtr 39 1000000),fH 41 37 40] [1,3,4,41]
(Cd 41
(Sn [
ic 2 8] [2]
.ret)
.skip))
(Sn [
ic 5 0] [1,3,4,5]
(.block 2
(.loop [(1,none),(3,none),(4,none),(5,none)]
(.seq
(Sn [
mv 42 5,mv 43 3,bt 44 .lss 42 43] [1,3,4,5,44]
(Cd 44
.skip
(.exit 2)))
(.seq
(.block 3
(Ss [0,1,0,7,15,31,0,64,255] [
fa 47 3 1,ln 48 47,mv 49 5,ia 50 5 48 49,fa 51 2 50,ln 52 51,fa 53 2 4,ln 54 53,bt 55 .eql 52 54] [1,3,4,5,55]
(Cd 55
(Sn [
ic 2 8] [2]
.ret)
.skip)))
(Rn [
mv 45 5,bc 46 .add 45 1,mv 5 46] [1,3,4,5])))))))))
(Rn [
mv 21 3,bc 22 .add 21 1,mv 3 22] [1,3]))))))
(.seq
(Sn [
ic 6 1] [1,6]
(.block 4
(.loop [(1,none),(6,none)]
(.seq
(Sn [
mv 56 6,fa 57 3 1,ln 58 57,le 59 58,bt 60 .lss 56 59] [1,6,60]
(Cd 60
.skip
(.exit 4)))
(.seq
(.block 5
(Ss [0,1,0,7,15,0,32,0,128,384,992,2016,4095] [
fa 63 3 1,ln 64 63,mv 65 6,ia 66 5 64 65,ld 67 5 66,fa 68 3 1,ln 69 68,mv 70 6,bc 71 .sub 70 1,bc 72 .quo 71 2,ia 73 5 69 72,ld 74 5 73,
p2 75 173 67 74] [1,6,75]
(Cd 75
(Sn [
ic 2 8] [2]
.ret)
.skip)))
(Rn [
mv 61 6,bc 62 .add 61 1,mv 6 62] [1,6]))))))
(Sn [
ic 2 0] [2]
.ret))))),
[.tmp 2]⟩
theorem aAr:ck aHX 123:=by decide+kernel
def aHY:aI:=⟨3,
(Sn [
bx 3 0,bx 4 1,bx 5 2,Al 6 z8,Fl 7] [3,4,5,6]
(Ss [0,1,0,0,8,28,63,127,0,256,0,0,2048,7228,16188,32572,0,131071,262143,262143,1048575,2097151] [
fa 8 0 3,ln 9 8,ld 10 1 3,fa 11 1 4,ln 12 11,p2 13 64 10 12,ia 14 3 9 13,ld 15 3 14,fa 16 0 3,ln 17 16,ld 18 1 3,fa 19 0 4,ln 20 19,p2 21 64 18 20,
ia 22 3 17 21,ld 23 3 22,ld 24 2 5,p3 25 174 15 23 24,ex 26 0 25,ex 27 1 25,st 2 6 26,mv 7 27] [6,7]
.ret)),
[.cell 6 (some 2),.tmp 7]⟩
theorem aAs:ck aHY 124:=by decide+kernel
def aHZ:aI:=⟨2,
(Sn [
bx 2 0,bx 3 1,Al 4 z3,ic 5 0] [2,3,4]
(.seq
(Sn [
ld 6 5 2,p1 7 123 6,bc 8 .neq 7 0] [2,3,4,8]
(Cd 8
(Sn [
Bu 9 z3 [],st 5 4 9,ic 5 8] [4,5]
.ret)
.skip))
(.seq
(Sn [
fa 10 0 2,ld 11 3 10,ld 12 2 3,p2 13 175 11 12,No 14 13] [2,3,4,14]
(Cd 14
(Sn [
Bu 15 z3 [],st 5 4 15,ic 5 6] [4,5]
.ret)
.skip))
(Ss [0,1,0,4,0,16,60,124,255,511,1023,2047] [
fa 16 3 2,ln 17 16,fa 18 4 2,ln 19 18,fa 20 0 3,ln 21 20,ia 22 1 19 21,ln 23 22,ia 24 5 17 23,ld 25 5 24,st 5 4 25,ic 5 0] [4,5]
.ret)))),
[.cell 4 (some 5),.tmp 5]⟩
theorem aAt:ck aHZ 125:=by decide+kernel
def aH0:aI:=⟨2,
(Sn [
bx 2 0,bx 3 1,Fl 4] [2,3]
(.seq
(Sn [
ic 5 0] [2,3,5]
(.block 0
(.loop [(2,none),(3,none),(5,none)]
(.seq
(Sn [
mv 6 5,fa 7 1 2,ln 8 7,le 9 8,bt 10 .lss 6 9] [2,3,5,10]
(Cd 10
.skip
(.exit 0)))
(.seq
(.block 1
(Ss [0,1,0,7,15,31,0,127] [
fa 13 1 2,ln 14 13,mv 15 5,ia 16 3 14 15,fa 17 1 16,ld 18 2 17,ld 19 2 3,⟨some 20,.eqc 2 false (.t 18) (.t 19),none⟩] [2,3,5,20]
(Cd 20
(Sn [
Tr 4] [4]
.ret)
.skip)))
(Rn [
mv 11 5,bc 12 .add 11 1,mv 5 12] [2,3,5]))))))
(Sn [
Fl 4] [4]
.ret))),
[.tmp 4]⟩
theorem aAu:ck aH0 126:=by decide+kernel
def aH1:aI:=⟨3,
(Sn [
bx 3 0,bx 4 1,bx 5 2,Fl 6] [3,4,5]
(Ss [0,1,0,0,8,28,63,127,0,256,0,0,2048,7228,16188,32572,0,131071,262143] [
fa 7 0 4,ln 8 7,ld 9 1 4,fa 10 1 3,ln 11 10,p2 12 64 9 11,ia 13 3 8 12,ld 14 3 13,fa 15 0 4,ln 16 15,ld 17 1 4,fa 18 0 3,ln 19 18,p2 20 64 17 19,
ia 21 3 16 20,ld 22 3 21,ld 23 2 5,p3 24 176 14 22 23,mv 6 24] [6]
.ret)),
[.tmp 6]⟩
theorem aAv:ck aH1 127:=by decide+kernel
def aH2:aI:=⟨1,
(Sn [
bx 1 0,ic 2 0] [1]
(Sn [
⟨some 3,.mov (.c (.clo 177 [] [])),none⟩] [1,3]
(.seq
(Sn [
fa 4 0 1,ln 5 4,bc 6 .lss 5 0,mv 7 6,Gf 7 (fa 8 0 1),Gf 7 (ln 9 8),Gf 7 (bc 10 .gtr 9 65535),fH 11 7 10,mv 12 11,Gf 12 (mv 13 3),Gf 12 (fa 14 1 1),
Gf 12 (ln 15 14),Gf 12 (⟨some 16,.callv (.t 13) [(.t 15)],none⟩),fH 17 12 16,mv 18 17,Gf 18 (mv 19 3),Gf 18 (fa 20 2 1),Gf 18 (ln 21 20),
Gf 18 (⟨some 22,.callv (.t 19) [(.t 21)],none⟩),fH 23 18 22] [23]
(Cd 23
(Sn [
ic 2 8] [2]
.ret)
.skip))
(Sn [
ic 2 0] [2]
.ret)))),
[.tmp 2]⟩
theorem aAw:ck aH2 128:=by decide+kernel
def aH3:aI:=⟨2,
(Sn [
bx 2 0,ic 4 0,Fl 5] [1,2]
(Sn [
fa 6 0 2,ln 7 6,mv 8 1,⟨some 9,.call .pur 178 [(.t 7),(.t 8),(.c (.clo 179 [] []))],none⟩,ex 10 0 9,ex 11 1 9,mv 4 10,mv 5 11] [4,5]
.ret)),
[.tmp 4,.tmp 5]⟩
theorem aAx:ck aH3 129:=by decide+kernel
def aH4:aI:=⟨4,
(Sn [
bx 4 0,bx 5 1,Fl 8] [2,3,4,5]
(Ss [0,1,0,0,12,31,63,0,128,0,0,1564,3996,8092,0,32767,65535] [
fa 9 0 4,ln 10 9,ld 11 1 4,mv 12 2,p2 13 64 11 12,ia 14 3 10 13,ld 15 3 14,fa 16 0 4,ln 17 16,ld 18 1 4,mv 19 3,p2 20 64 18 19,ia 21 3 17 20,
ld 22 3 21,ld 23 2 5,p3 24 176 15 22 23,mv 8 24] [8]
.ret)),
[.tmp 8]⟩
theorem aAy:ck aH4 131:=by decide+kernel
def aH5:aI:=⟨1,
(Sn [
bx 1 0,Fl 2] [1]
(Sn [
fa 3 0 1,ln 4 3,le 5 4,bc 6 .gtr 5 210,mv 7 6,Gf 7 (fa 8 1 1),Gf 7 (ln 9 8),Gf 7 (le 10 9),Gf 7 (bc 11 .gtr 10 210),fH 12 7 11,mv 13 12,
Gf 13 (fa 14 2 1),Gf 13 (ln 15 14),Gf 13 (le 16 15),Gf 13 (bc 17 .gtr 16 210),fH 18 13 17,mv 2 18] [2]
.ret)),
[.tmp 2]⟩
theorem aAz:ck aH5 132:=by decide+kernel
def aH6:aI:=⟨1,
(Sn [
bx 1 0,Al 2 z4] [1,2]
(Ss [0,0,2,7,0,0,32,127,0,0,512,2047,4095,8191] [
⟨some 3,.mkrow 1 0 [.int .i64 0] [],none⟩,fa 4 0 1,ln 5 4,ap 6 1 3 5,⟨some 7,.mkrow 1 0 [.bool false] [],none⟩,fa 8 1 1,ln 9 8,ap 10 1 7 9,
⟨some 11,.mkrow 1 0 [.int .i64 0] [],none⟩,fa 12 2 1,ln 13 12,ap 14 1 11 13,
Bu 15 z4 [(0,1,(.t 6)),(1,1,(.t 10)),(2,1,(.t 14))],st 3 2 15] [2]
.ret)),
[.cell 2 (some 3)]⟩
theorem aAA:ck aH6 133:=by decide+kernel
def aH7:aI:=⟨1,
(Sn [
Fl 2] [0]
(Sn [
mv 3 0,mv 4 0,bt 5 .neq 3 4,mv 2 5] [2]
.ret)),
[.tmp 2]⟩
theorem aAB:ck aH7 134:=by decide+kernel
def aH8:aI:=⟨2,
(Sn [
ic 4 0] [0,1]
(Sn [
mv 7 0,p1 8 183 7,mv 5 8] [0,1,5]
(Sn [
mv 9 1,p1 10 183 9,mv 6 10] [0,1,5,6]
(.seq
(Sn [
mv 11 5] [0,1,6,11]
(Cd 11
(.seq
(Sn [
mv 12 6] [12]
(Cd 12
(Sn [
ic 4 0] [4]
.ret)
.skip))
(Sn [
ic 4 (-1)] [4]
.ret))
.skip))
(.seq
(Sn [
mv 13 6] [0,1,13]
(Cd 13
(Sn [
ic 4 1] [4]
.ret)
.skip))
(.seq
(Sn [
mv 14 0,mv 15 1,bt 16 .lss 14 15] [0,1,16]
(Cd 16
(Sn [
ic 4 (-1)] [4]
.ret)
.skip))
(.seq
(Sn [
mv 17 0,mv 18 1,bt 19 .gtr 17 18] [19]
(Cd 19
(Sn [
ic 4 1] [4]
.ret)
.skip))
(Sn [
ic 4 0] [4]
.ret)))))))),
[.tmp 4]⟩
theorem aAC:ck aH8 135:=by decide+kernel
def aH9:aI:=⟨2,
(Sn [
⟨some 4,.mov (.c (.int .u64 0)),none⟩,⟨some 5,.mov (.c (.int .u64 0)),none⟩] [0,1]
(Sn [
mv 14 0,⟨some 15,.bin .and (.t 14) (.c (.int .u64 4294967295)),none⟩,mv 6 15] [0,1,6]
(Sn [
mv 16 0,⟨some 17,.bin .shr (.t 16) (.c (.int .u64 32)),none⟩,mv 7 17] [0,1,6,7]
(Sn [
mv 18 1,⟨some 19,.bin .and (.t 18) (.c (.int .u64 4294967295)),none⟩,mv 8 19] [0,1,6,7,8]
(Sn [
mv 20 1,⟨some 21,.bin .shr (.t 20) (.c (.int .u64 32)),none⟩,mv 9 21] [0,1,6,7,8,9]
(Sn [
mv 22 6,mv 23 8,bt 24 .mul 22 23,mv 10 24] [0,1,6,7,8,9,10]
(Sn [
mv 25 7,mv 26 8,bt 27 .mul 25 26,mv 28 10,⟨some 29,.bin .shr (.t 28) (.c (.int .u64 32)),none⟩,bt 30 .add 27 29,mv 11 30] [0,1,6,7,9,11]
(Sn [
mv 31 11,⟨some 32,.bin .and (.t 31) (.c (.int .u64 4294967295)),none⟩,mv 12 32] [0,1,6,7,9,11,12]
(Sn [
mv 33 11,⟨some 34,.bin .shr (.t 33) (.c (.int .u64 32)),none⟩,mv 13 34] [0,1,6,7,9,12,13]
(Sn [
mv 35 12,mv 36 6,mv 37 9,bt 38 .mul 36 37,bt 39 .add 35 38,mv 12 39] [0,1,7,9,12,13]
(Sn [
mv 40 7,mv 41 9,bt 42 .mul 40 41,mv 43 13,bt 44 .add 42 43,mv 45 12,⟨some 46,.bin .shr (.t 45) (.c (.int .u64 32)),none⟩,bt 47 .add 44 46,
mv 4 47] [0,1,4]
(Sn [
mv 48 0,mv 49 1,bt 50 .mul 48 49,mv 5 50] [4,5]
.ret)))))))))))),
[.tmp 4,.tmp 5]⟩
theorem aAD:ck aH9 136:=by decide+kernel
def aIa:aI:=⟨2,
(Sn [
bx 2 0,
Al 4 z1,
Al 5 z8,ic 6 0] [1,2,4,5]
(Sn [
fa 17 3 2,ld 18 2 17,mv 19 1,p2 20 184 18 19,mv 16 20,ex 21 0 16,ex 22 1 16,ex 23 2 16,Al 7 z7,
Al 8 z8,st 2 7 21,st 2 8 22,mv 9 23] [1,2,4,5,7,8,9]
(.seq
(Sn [
mv 24 9,bc 25 .neq 24 0] [1,2,4,5,7,8,9,25]
(Cd 25
(Ss [0,0,0,1,11,31] [
Bu 26 z1 [],
ld 27 2 8,mv 28 9,st 11 4 26,st 2 5 27,mv 6 28] [4,5,6]
.ret)
.skip))
(Sn [
ld 29 11 2,⟨some 30,.call .own 83 [(.t 29)],none⟩,
Al 10 z1,
st 11 10 30] [1,2,4,5,7,8,10]
(Sn [
ld 31 2 7,fa 32 3 10,st 2 32 31] [1,2,4,5,8,10]
(.seq
(Sn [
fa 34 10 2,ln 35 34,mv 36 1,p2 37 158 35 36,mv 33 37,ex 38 0 33,ex 39 1 33,mv 11 38,mv 12 39] [2,4,5,8,10,11,12]
(Sn [
mv 40 12] [2,4,5,8,10,11,40]
(Cd 40
(Ss [0,1,0,4,0,28,60,124,255,511,1023,1023,1023,0,0,26623,61439,131071] [
fa 42 5 2,ld 43 5 42,fa 44 10 2,ln 45 44,mv 46 11,ia 47 3 45 46,fa 48 1 47,ld 49 2 48,p2 50 161 43 49,mv 41 50,ex 51 0 41,ex 52 1 41,ex 53 2 41,
Al 13 z2,Al 14 z3,
st 5 13 51,st 5 14 52,mv 15 53] [4,5,8,10,11,13,15]
(.seq
(Sn [
mv 54 15,bc 55 .neq 54 0] [4,5,8,10,11,13,15,55]
(Cd 55
(Ss [0,0,0,1,11,31] [
Bu 56 z1 [],
ld 57 2 8,mv 58 15,st 11 4 56,st 2 5 57,mv 6 58] [4,5,6]
.ret)
.skip))
(Rs [0,0,2,0,0,16,62,7,255,511,1023] [
ld 59 5 13,fa 60 10 10,ln 61 60,mv 62 11,mv 63 11,bc 64 .add 63 1,⟨some 65,.call .fp 185 [(.t 61),(.t 62),(.t 64)],none⟩,fa 66 5 10,st 5 66 59,
fa 67 10 10,st 1 67 65] [4,5,8,10])))
.skip)))
(Ss [0,0,1,7,15] [
ld 68 11 10,ld 69 2 8,st 11 4 68,st 2 5 69,ic 6 0] [4,5,6]
.ret))))))),
[.cell 4 (some 11),.cell 5 (some 2),.tmp 6]⟩
theorem aAE:ck aIa 137:=by decide+kernel
def aIb:aI:=⟨2,
(Sn [
Al 4 z6] [0,1,4]
(Sn [
mv 6 0,p1 7 114 6,mv 8 1,p1 9 114 8,p2 10 186 7 9,Al 5 z6,st 3 5 10] [0,1,4,5]
(Sn [
mv 11 0,bc 12 .lss 11 0,mv 13 1,bc 14 .lss 13 0,⟨some 15,.binb true (.t 12) (.t 14),none⟩,mv 16 15,Gt 16 (mv 17 0),Gt 16 (bc 18 .neq 17 0),
Gt 16 (mv 19 18),Gt 19 (mv 20 1),Gt 19 (bc 21 .neq 20 0),Gt 16 (rP 22 19 21),rP 23 16 22,fa 24 0 5,st 1 24 23] [4,5]
(Sn [
ld 25 3 5,st 3 4 25] [4]
.ret)))),
[.cell 4 (some 3)]⟩
theorem aAF:ck aIb 142:=by decide+kernel
def aIc:aI:=⟨1,
(Sn [
bx 1 0,ic 2 0] [1]
(.seq
(Sn [
fa 3 1 1,ln 4 3,⟨some 5,.bin .eql (.t 4) (.c (.int .u64 0)),none⟩,mv 6 5,Gt 6 (fa 7 2 1),Gt 6 (ln 8 7),
Gt 6 (⟨some 9,.bin .eql (.t 8) (.c (.int .u64 0)),none⟩),rP 10 6 9] [1,10]
(Cd 10
(Sn [
ic 2 0] [2]
.ret)
.skip))
(.seq
(Sn [
fa 11 0 1,ln 12 11] [12]
(Cd 12
(Sn [
ic 2 (-1)] [2]
.ret)
.skip))
(Sn [
ic 2 1] [2]
.ret)))),
[.tmp 2]⟩
theorem aAG:ck aIc 143:=by decide+kernel
def aId:aI:=⟨2,
(Sn [
bx 2 0,bx 3 1,ic 4 0] [2,3]
(.seq
(Sn [
fa 5 1 2,ln 6 5,fa 7 1 3,ln 8 7,bt 9 .neq 6 8] [2,3,9]
(Cd 9
(.seq
(Sn [
fa 10 1 2,ln 11 10,fa 12 1 3,ln 13 12,bt 14 .lss 11 13] [14]
(Cd 14
(Sn [
ic 4 (-1)] [4]
.ret)
.skip))
(Sn [
ic 4 1] [4]
.ret))
.skip))
(.seq
(Sn [
fa 15 2 2,ln 16 15,fa 17 2 3,ln 18 17,bt 19 .neq 16 18] [2,3,19]
(Cd 19
(.seq
(Sn [
fa 20 2 2,ln 21 20,fa 22 2 3,ln 23 22,bt 24 .lss 21 23] [24]
(Cd 24
(Sn [
ic 4 (-1)] [4]
.ret)
.skip))
(Sn [
ic 4 1] [4]
.ret))
.skip))
(Sn [
ic 4 0] [4]
.ret)))),
[.tmp 4]⟩
theorem aAH:ck aId 144:=by decide+kernel
def aIe:aI:=⟨2,
(Sn [
bx 2 0,
Al 4 z1] [1,2,4]
(Sn [
ld 7 11 2,⟨some 8,.call .own 32 [(.t 7)],none⟩,
Al 5 z1,
st 11 5 8] [1,2,4,5]
(Sn [
fa 9 3 2,ld 10 2 9,mv 11 1,p2 12 187 10 11,fa 13 3 5,st 2 13 12] [1,2,4,5]
(.seq
(Sn [
ld 14 11 2,mv 15 1,p2 16 188 14 15,mv 6 16] [2,4,5,6]
(Sn [
mv 17 6,bc 18 .geq 17 0] [2,4,5,6,18]
(Cd 18
(Ss [0,1,0,4,0,28,60,124,255,511,1023] [
fa 19 5 2,ld 20 5 19,fa 21 10 2,ln 22 21,mv 23 6,ia 24 3 22 23,fa 25 1 24,ld 26 2 25,p2 27 189 20 26,fa 28 5 5,st 5 28 27] [2,4,5,6]
(Rs [0,0,2,0,14,31,0,64,0,256,960,2047,4095,8191] [
⟨some 29,.mkrow 3 0 z5 [],none⟩,fa 30 10 2,ln 31 30,mv 32 6,⟨some 33,.slc 3 (.t 31) none (some (.t 32)) none,none⟩,
ap 34 3 29 33,fa 35 10 2,ln 36 35,mv 37 6,bc 38 .add 37 1,⟨some 39,.slc 3 (.t 36) (some (.t 38)) none none,none⟩,ap 40 3 34 39,fa 41 10 5,
st 1 41 40] [4,5]))
.skip)))
(Sn [
ld 42 11 5,st 11 4 42] [4]
.ret))))),
[.cell 4 (some 11)]⟩
theorem aAI:ck aIe 146:=by decide+kernel
def aIf:aI:=⟨2,
(Sn [
bx 3 1,Fl 4] [0,3]
(.seq
(Sn [
ic 5 0] [0,3,5]
(.block 0
(.loop [(0,none),(3,none),(5,none)]
(.seq
(Sn [
mv 6 5,mv 7 0,le 8 7,bt 9 .lss 6 8] [0,3,5,9]
(Cd 9
.skip
(.exit 0)))
(.seq
(.block 1
(Ss [0,0,3,7,0,31] [
mv 12 0,mv 13 5,ia 14 2 12 13,ld 15 2 14,ld 16 2 3,⟨some 17,.eqc 2 false (.t 15) (.t 16),none⟩] [0,3,5,17]
(Cd 17
(Sn [
Tr 4] [4]
.ret)
.skip)))
(Rn [
mv 10 5,bc 11 .add 10 1,mv 5 11] [0,3,5]))))))
(Sn [
Fl 4] [4]
.ret))),
[.tmp 4]⟩
theorem aAJ:ck aIf 147:=by decide+kernel
end Go.Proofs.YtmlghnibpjlchaaGreat
