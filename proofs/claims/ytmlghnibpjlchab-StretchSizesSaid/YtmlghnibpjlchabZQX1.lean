/- Functions of the seat as the logical machine runs them, and the look at each of them (1). Printed by a program. -/
import Derived.Test.YtmlghnibpjlchabZVm2
import Derived.Test.YtmlghnibpjlchabProg
set_option maxRecDepth 100000
namespace Go.Proofs.Ytmlghnibpjlchab
open Go.Vm
abbrev mv (d s:Nat):XOper:=⟨some d,.mov (.t s),none⟩
abbrev ic (d:Nat) (n:Int):XOper:=⟨some d,.mov (.c (.int .i64 n)),none⟩
abbrev ld (d a s:Nat):XOper:=⟨some d,.load (some a) (.t s),none⟩
abbrev ln (d s:Nat):XOper:=⟨some d,.load none (.t s),none⟩
abbrev fa (d o s:Nat):XOper:=⟨some d,.fadr o (.t s),none⟩
abbrev st (z p s:Nat):XOper:=⟨none,.store z (.t p) (.t s),none⟩
abbrev ex (d i s:Nat):XOper:=⟨some d,.ext i (.t s),none⟩
abbrev bx (d s:Nat):XOper:=⟨some d,.box (.t s),none⟩
abbrev le (d s:Nat):XOper:=⟨some d,.len (.t s),none⟩
abbrev ia (d z s i:Nat):XOper:=⟨some d,.iadr z (.t s) (.t i),none⟩
abbrev bt (d:Nat) (o:BinOp) (a b:Nat):XOper:=⟨some d,.bin o (.t a) (.t b),none⟩
abbrev bc (d:Nat) (o:BinOp) (a:Nat) (n:Int):XOper:=⟨some d,.bin o (.t a) (.c (.int .i64 n)),none⟩
abbrev ap (d z a b:Nat):XOper:=⟨some d,.append z (.t a) (.t b),none⟩
abbrev por (d a b:Nat):XOper:=⟨some d,.pick (.t a) (.c (.bool true)) (.t b),none⟩
abbrev pan (d a b:Nat):XOper:=⟨some d,.pick (.t a) (.t b) (.c (.bool false)),none⟩
abbrev p1 (d f a:Nat):XOper:=⟨some d,.call .pur f [(.t a)],none⟩
abbrev p2 (d f a b:Nat):XOper:=⟨some d,.call .pur f [(.t a),(.t b)],none⟩
abbrev p3 (d f a b c:Nat):XOper:=⟨some d,.call .pur f [(.t a),(.t b),(.t c)],none⟩
abbrev p4 (d f a b c e:Nat):XOper:=⟨some d,.call .pur f [(.t a),(.t b),(.t c),(.t e)],none⟩
abbrev Fl (d:Nat):XOper:=⟨some d,.mov (.c (.bool false)),none⟩
abbrev Tr (d:Nat):XOper:=⟨some d,.mov (.c (.bool true)),none⟩
abbrev Al (d:Nat) (z:List PV):XOper:=⟨some d,.alloc z,none⟩
abbrev Bu (d:Nat) (z:List PV) (l:List (Nat×Nat×Opd)):XOper:=⟨some d,.build z l,none⟩
abbrev No (d s:Nat):XOper:=⟨some d,.un .not (.t s),none⟩
abbrev Gf (c:Nat) (o:XOper):XOper:=⟨o.dst,o.op,some (c,false)⟩
abbrev Gt (c:Nat) (o:XOper):XOper:=⟨o.dst,o.op,some (c,true)⟩
abbrev Rn (l:List XOper) (k:List Nat):XCode:= .region none l k
abbrev Rs (r:List Nat) (l:List XOper) (k:List Nat):XCode:= .region (some r) l k
abbrev Sn (l:List XOper) (k:List Nat) (c:XCode):XCode:= .seq (.region none l k) c
abbrev Ss (r:List Nat) (l:List XOper) (k:List Nat) (c:XCode):XCode:= .seq (.region (some r) l k) c
abbrev Cd (t:Nat) (a b:XCode):XCode:= .cond (.t t) a b
abbrev ck (x:XFunc) (n:Nat):Prop:=chkFunc Go.Proofs.Try.prog (fun _=>true) x n=true
def x3:XFunc:=⟨2,
(Sn [
Fl 4] [0,1]
(.seq
(Sn [
mv 17 1,le 18 17,bc 19 .gtr 18 300,mv 20 19,Gt 20 (mv 21 1),Gt 20 (le 22 21),Gt 20 (bc 23 .leq 22 1000),pan 24 20 23,mv 25 24,Gf 25 (mv 26 1),
Gf 25 (le 27 26),Gf 25 (bc 28 .gtr 27 1100),por 29 25 28] [0,1,29]
(Cd 29
(Sn [
Tr 4] [4]
.ret)
.skip))
(Sn [
mv 31 0,p1 32 4 31,mv 30 32,ex 33 0 30,ex 34 1 30,mv 5 33,mv 6 34] [0,1,5,6]
(Sn [
mv 36 0,p1 37 5 36,mv 35 37,ex 38 0 35,ex 39 1 35,mv 7 38,mv 8 39] [1,5,6,7,8]
(Sn [
mv 41 1,p1 42 6 41,mv 40 42,ex 43 0 40,ex 44 1 40,mv 9 43,mv 10 44] [1,5,6,7,8,9,10]
(Sn [
mv 46 1,p1 47 7 46,mv 45 47,ex 48 0 45,ex 49 1 45,mv 11 48,mv 12 49] [1,5,6,7,8,9,10,11,12]
(Sn [
mv 51 1,p1 52 8 51,mv 50 52,ex 53 0 50,ex 54 1 50,mv 13 53,mv 14 54] [1,5,6,7,8,9,10,11,12,13,14]
(Sn [
mv 56 1,p1 57 9 56,mv 55 57,ex 58 0 55,ex 59 1 55,mv 15 58,mv 16 59] [5,6,7,8,9,10,11,12,13,14,15,16]
(Sn [
mv 60 5,mv 61 7,bt 62 .eql 60 61,mv 63 62,Gt 63 (mv 64 6),Gt 63 (mv 65 8),Gt 63 (bt 66 .eql 64 65),pan 67 63 66,mv 68 67,Gt 68 (mv 69 9),
Gt 68 (mv 70 11),Gt 68 (p2 71 10 69 70),pan 72 68 71,mv 73 72,Gt 73 (mv 74 10),Gt 73 (mv 75 12),Gt 73 (bt 76 .eql 74 75),pan 77 73 76,mv 78 77,
Gt 78 (mv 79 13),Gt 78 (mv 80 15),Gt 78 (bt 81 .eql 79 80),pan 82 78 81,mv 83 82,Gt 83 (mv 84 14),Gt 83 (mv 85 16),Gt 83 (bt 86 .eql 84 85),
pan 87 83 86,mv 4 87] [4]
.ret))))))))),
[.tmp 4]⟩
theorem x3_ok:ck x3 3:=by decide+kernel
def x4:XFunc:=⟨1,
(Sn [
ic 2 0,ic 3 0] [0]
(.seq
(Sn [
mv 5 0,bc 6 .lss 5 0,mv 7 6,Gf 7 (mv 8 0),Gf 7 (bc 9 .gtr 8 64),por 10 7 9] [0,10]
(Cd 10
(Sn [
ic 2 0,ic 3 2] [2,3]
.ret)
.skip))
(Sn [
ic 4 1] [0,4]
(.seq
(.block 0
(.loop [(0,none),(4,none)]
(.seq
(Sn [
mv 11 4,mv 12 0,bt 13 .lss 11 12] [0,4,13]
(Cd 13
.skip
(.exit 0)))
(.block 1
(Rn [
mv 14 4,bc 15 .mul 14 2,mv 4 15] [0,4])))))
(Sn [
mv 16 4,mv 2 16,ic 3 0] [2,3]
.ret))))),
[.tmp 2,.tmp 3]⟩
theorem x4_ok:ck x4 4:=by decide+kernel
def x5:XFunc:=⟨1,
(Sn [
ic 2 0,ic 3 0] [0]
(.seq
(Sn [
mv 5 0,bc 6 .lss 5 0,mv 7 6,Gf 7 (mv 8 0),Gf 7 (bc 9 .gtr 8 64),por 10 7 9] [0,10]
(Cd 10
(Sn [
ic 2 0,ic 3 2] [2,3]
.ret)
.skip))
(.seq
(Sn [
ic 4 1] [0,4]
(.block 0
(.loop [(0,none),(4,none)]
(.seq
(Sn [
mv 11 4,mv 12 0,bt 13 .lss 11 12] [0,4,13]
(Cd 13
.skip
(.exit 0)))
(.seq
(.block 1
(Sn [
mv 16 4,⟨some 17,.bin .mul (.c (.int .i64 2)) (.t 16),none⟩,mv 18 0,bt 19 .geq 17 18] [0,4,19]
(Cd 19
(Sn [
mv 20 4,⟨some 21,.bin .mul (.c (.int .i64 2)) (.t 20),none⟩,mv 2 21,ic 3 0] [2,3]
.ret)
.skip)))
(Rn [
mv 14 4,bc 15 .mul 14 2,mv 4 15] [0,4]))))))
(Sn [
ic 2 1,ic 3 0] [2,3]
.ret)))),
[.tmp 2,.tmp 3]⟩
theorem x5_ok:ck x5 5:=by decide+kernel
def x6:XFunc:=⟨1,
(Sn [
⟨some 2,.mov (.c (.sl 1 true [])),none⟩,ic 3 0] [0]
(.seq
(Sn [
mv 5 0,le 6 5,bc 7 .gtr 6 1000] [0,7]
(Cd 7
(Sn [
⟨some 2,.mov (.c (.sl 1 true [])),none⟩,ic 3 4] [2,3]
.ret)
.skip))
(Sn [
Al 4 [.sl 1 true []]] [0,4]
(Sn [
mv 8 0,⟨some 9,.mkf 12 [] [(.t 4)],none⟩,⟨some 10,.call .shr 11 [(.t 8),(.t 9)],none⟩] [4]
(Sn [
ln 11 4,mv 2 11,ic 3 0] [2,3]
.ret))))),
[.tmp 2,.tmp 3]⟩
theorem x6_ok:ck x6 6:=by decide+kernel
def x7:XFunc:=⟨1,
(Sn [
⟨some 2,.mov (.c (.sl 1 true [])),none⟩,ic 3 0] [0]
(.seq
(Sn [
mv 6 0,le 7 6,bc 8 .gtr 7 1000] [0,8]
(Cd 8
(Sn [
⟨some 2,.mov (.c (.sl 1 true [])),none⟩,ic 3 4] [2,3]
.ret)
.skip))
(Sn [
mv 10 0,p1 11 13 10,mv 9 11,ex 12 0 9,ex 13 1 9,mv 4 12,mv 5 13] [4]
(Sn [
mv 14 4,mv 2 14,ic 3 0] [2,3]
.ret)))),
[.tmp 2,.tmp 3]⟩
theorem x7_ok:ck x7 7:=by decide+kernel
def x8:XFunc:=⟨1,
(Sn [
ic 2 0,ic 3 0] [0]
(.seq
(Sn [
mv 5 0,le 6 5,bc 7 .gtr 6 1000] [0,7]
(Cd 7
(Sn [
ic 2 0,ic 3 4] [2,3]
.ret)
.skip))
(Sn [
Al 4 [.int .i64 0],⟨none,.store 1 (.t 4) (.c (.int .i64 0)),none⟩] [0,4]
(Sn [
mv 8 0,⟨some 9,.mkf 14 [] [(.t 4)],none⟩,⟨some 10,.call .shr 11 [(.t 8),(.t 9)],none⟩] [4]
(Sn [
ln 11 4,mv 2 11,ic 3 0] [2,3]
.ret))))),
[.tmp 2,.tmp 3]⟩
theorem x8_ok:ck x8 8:=by decide+kernel
def x9:XFunc:=⟨1,
(Sn [
ic 2 0,ic 3 0] [0]
(.seq
(Sn [
mv 6 0,le 7 6,bc 8 .gtr 7 1000] [0,8]
(Cd 8
(Sn [
ic 2 0,ic 3 4] [2,3]
.ret)
.skip))
(Sn [
mv 10 0,p1 11 13 10,mv 9 11,ex 12 0 9,ex 13 1 9,mv 4 12,mv 5 13] [5]
(Sn [
mv 14 5,mv 2 14,ic 3 0] [2,3]
.ret)))),
[.tmp 2,.tmp 3]⟩
theorem x9_ok:ck x9 9:=by decide+kernel
def x10:XFunc:=⟨2,
(Sn [
Fl 4] [0,1]
(.seq
(Sn [
mv 6 0,le 7 6,mv 8 1,le 9 8,bt 10 .neq 7 9] [0,1,10]
(Cd 10
(Sn [
Fl 4] [4]
.ret)
.skip))
(.seq
(Sn [
ic 5 0] [0,1,5]
(.block 0
(.loop [(0,none),(1,none),(5,none)]
(.seq
(Sn [
mv 11 5,mv 12 0,le 13 12,bt 14 .lss 11 13] [0,1,5,14]
(Cd 14
.skip
(.exit 0)))
(.seq
(.block 1
(Ss [0,0,3,7,0,0,48,112,255] [
mv 17 0,mv 18 5,ia 19 1 17 18,ln 20 19,mv 21 1,mv 22 5,ia 23 1 21 22,ln 24 23,bt 25 .neq 20 24] [0,1,5,25]
(Cd 25
(Sn [
Fl 4] [4]
.ret)
.skip)))
(Rn [
mv 15 5,bc 16 .add 15 1,mv 5 16] [0,1,5]))))))
(Sn [
Tr 4] [4]
.ret)))),
[.tmp 4]⟩
theorem x10_ok:ck x10 10:=by decide+kernel
def x11:XFunc:=⟨2,
(Sn [
ic 4 1,ic 5 0] [0,1,4,5]
(Sn [
mv 9 0,le 10 9,ic 11 0] [1,4,5,9,10,11]
(.block 0
(.loop [(1,none),(4,none),(5,none),(9,none),(10,none),(11,none),(1,some 1001)]
(Sn [
bt 12 .lss 11 10] [1,4,5,9,10,11,12]
(.seq
(Cd 12
.skip
(.exit 0))
(.seq
(.block 1
(Sn [
ia 13 1 9 11,ln 14 13,mv 7 14] [1,4,5,7,9,10,11]
(Sn [
ic 8 0] [1,4,5,7,8,9,10,11]
(.seq
(.block 2
(Sn [
mv 16 7,mv 17 16,Gt 17 (mv 18 5),Gt 17 (bc 19 .lss 18 64),pan 20 17 19,mv 15 20] [1,4,5,7,8,9,10,11,15]
(Cd 15
(.seq
(Sn [
mv 21 5,mv 22 4,bt 23 .eql 21 22] [1,4,5,8,9,10,11,23]
(Cd 23
(Rn [
mv 24 4,⟨some 25,.bin .mul (.c (.int .i64 2)) (.t 24),none⟩,mv 26 5,mv 4 25,mv 8 26] [1,4,5,8,9,10,11])
.skip))
(Rn [
mv 27 5,bc 28 .add 27 1,mv 5 28] [1,4,5,8,9,10,11]))
(Sn [
mv 30 7,No 31 30,mv 32 31,Gt 32 (mv 33 5),Gt 32 (bc 34 .gtr 33 0),pan 35 32 34,mv 29 35] [1,4,5,8,9,10,11,29]
(Cd 29
(Sn [
mv 36 5,bc 37 .sub 36 1,mv 5 37] [1,4,5,8,9,10,11]
(Sn [
mv 38 4,bc 39 .gtr 38 1,mv 40 39,Gt 40 (mv 41 5),Gt 40 (⟨some 42,.bin .mul (.c (.int .i64 4)) (.t 41),none⟩),Gt 40 (mv 43 4),Gt 40 (bt 44 .leq 42 43),
pan 45 40 44] [1,4,5,8,9,10,11,45]
(Cd 45
(Rn [
mv 46 4,bc 47 .quo 46 2,mv 48 5,mv 4 47,mv 8 48] [1,4,5,8,9,10,11])
.skip)))
.skip)))))
(Rn [
mv 49 1,mv 50 4,mv 51 8,⟨some 52,.callv (.t 49) [(.t 50),(.t 51)],none⟩] [1,4,5,9,10,11])))))
(Rn [
bc 53 .add 11 1,mv 11 53] [1,4,5,9,10,11])))))))),
[]⟩
theorem x11_ok:ck x11 11:=by decide+kernel
def x12:XFunc:=⟨3,
(Rn [
ln 5 2,mv 6 0,⟨some 7,.mkrow 1 1 [.int .i64 0] [(0,(.t 6))],none⟩,ap 8 1 5 7,st 1 2 8] []),
[]⟩
theorem x12_ok:ck x12 12:=by decide+kernel
def x13:XFunc:=⟨1,
(Sn [
⟨some 2,.mov (.c (.sl 1 true [])),none⟩,ic 3 0] [0]
(Sn [
⟨some 10,.mkrow 1 1 [.int .i64 0] [(0,(.c (.int .i64 (-1))))],none⟩,mv 4 10] [0,4]
(Sn [
⟨some 5,.mov (.c (.sl 1 true [])),none⟩] [0,4,5]
(Sn [
ic 6 0] [0,4,5,6]
(.seq
(Sn [
ic 7 0] [0,4,5,6,7]
(.block 0
(.loop [(0,none),(4,some 1),(5,some 1),(6,none),(7,none)]
(.seq
(Sn [
mv 11 7,mv 12 0,le 13 12,bt 14 .lss 11 13] [0,4,5,6,7,14]
(Cd 14
.skip
(.exit 0)))
(.seq
(.block 1
(Sn [
mv 17 4,mv 8 17] [0,4,5,6,7,8]
(.seq
(Sn [
mv 18 0,mv 19 7,ia 20 1 18 19,ln 21 20,mv 22 21,Gt 22 (mv 23 4),Gt 22 (p1 24 15 23),Gt 22 (bc 25 .lss 24 64),pan 26 22 25] [0,4,5,6,7,8,26]
(Cd 26
(Sn [
mv 27 4,mv 28 7,⟨some 29,.call .own 16 [(.t 27),(.t 28)],none⟩,mv 4 29] [0,4,5,6,7,8]
(Sn [
mv 30 4,le 31 30,mv 32 8,le 33 32,bt 34 .gtr 31 33] [0,4,5,6,7,8,34]
(Cd 34
(Rn [
mv 35 6,mv 36 8,p1 37 15 36,bt 38 .add 35 37,mv 6 38] [0,4,5,6,7,8])
.skip)))
.skip))
(.seq
(Sn [
mv 39 0,mv 40 7,ia 41 1 39 40,ln 42 41,No 43 42] [0,4,5,6,7,8,43]
(Cd 43
(.seq
(Sn [
ic 9 0] [0,4,5,6,7,8,9]
(.block 2
(.loop [(0,none),(4,some 1),(5,none),(6,none),(7,none),(8,none),(9,none)]
(.seq
(Sn [
mv 44 9,mv 45 8,le 46 45,bt 47 .lss 44 46] [0,4,5,6,7,8,9,47]
(Cd 47
.skip
(.exit 2)))
(.seq
(.block 3
(Sn [
mv 50 8,mv 51 9,ia 52 1 50 51,ln 53 52,bc 54 .geq 53 0] [0,4,5,6,7,8,9,54]
(Cd 54
(Sn [
mv 55 4,mv 56 8,mv 57 9,ia 58 1 56 57,ln 59 58,⟨some 60,.call .own 17 [(.t 55),(.t 59)],none⟩,mv 4 60] [0,4,5,6,7,8]
(.exit 2))
.skip)))
(Rn [
mv 48 9,bc 49 .add 48 1,mv 9 49] [0,4,5,6,7,8,9]))))))
(Sn [
mv 61 4,le 62 61,mv 63 8,le 64 63,bt 65 .lss 62 64] [0,4,5,6,7,65]
(Cd 65
(Rn [
mv 66 6,mv 67 4,p1 68 15 67,bt 69 .add 66 68,mv 6 69] [0,4,5,6,7])
.skip)))
.skip))
(Rn [
mv 70 5,mv 71 4,le 72 71,⟨some 73,.mkrow 1 1 [.int .i64 0] [(0,(.t 72))],none⟩,ap 74 1 70 73,mv 5 74] [0,4,5,6,7])))))
(Rn [
mv 15 7,bc 16 .add 15 1,mv 7 16] [0,4,5,6,7]))))))
(Sn [
mv 75 5,mv 76 6,mv 2 75,mv 3 76] [2,3]
.ret)))))),
[.tmp 2,.tmp 3]⟩
theorem x13_ok:ck x13 13:=by decide+kernel
def x14:XFunc:=⟨3,
(Rn [
ln 5 2,mv 6 1,bt 7 .add 5 6,st 1 2 7] []),
[]⟩
theorem x14_ok:ck x14 14:=by decide+kernel
def x15:XFunc:=⟨1,
(Sn [
ic 2 0] [0]
(Sn [
ic 3 0] [0,3]
(.seq
(Sn [
ic 4 0] [0,3,4]
(.block 0
(.loop [(0,none),(3,none),(4,none)]
(.seq
(Sn [
mv 5 4,mv 6 0,le 7 6,bt 8 .lss 5 7] [0,3,4,8]
(Cd 8
.skip
(.exit 0)))
(.seq
(.block 1
(Sn [
mv 11 0,mv 12 4,ia 13 1 11 12,ln 14 13,bc 15 .geq 14 0] [0,3,4,15]
(Cd 15
(Rn [
mv 16 3,bc 17 .add 16 1,mv 3 17] [0,3,4])
.skip)))
(Rn [
mv 9 4,bc 10 .add 9 1,mv 4 10] [0,3,4]))))))
(Sn [
mv 18 3,mv 2 18] [2]
.ret)))),
[.tmp 2]⟩
theorem x15_ok:ck x15 15:=by decide+kernel
def x16:XFunc:=⟨2,
(Sn [
⟨some 4,.mov (.c (.sl 1 true [])),none⟩] [0,1]
(Sn [
⟨some 7,.mkrow 1 0 [.int .i64 0] [],none⟩,mv 8 0,ap 9 1 7 8,mv 5 9] [0,1,5]
(.seq
(Sn [
ic 6 0] [0,1,5,6]
(.block 0
(.loop [(0,none),(1,none),(5,none),(6,none)]
(.seq
(Sn [
mv 10 6,mv 11 5,le 12 11,bt 13 .lss 10 12] [0,1,5,6,13]
(Cd 13
.skip
(.exit 0)))
(.seq
(.block 1
(Sn [
mv 16 5,mv 17 6,ia 18 1 16 17,ln 19 18,bc 20 .lss 19 0] [0,1,5,6,20]
(Cd 20
(Sn [
mv 21 5,mv 22 6,mv 23 1,ia 24 1 21 22,st 1 24 23] [5]
(Sn [
mv 25 5,mv 4 25] [4]
.ret))
.skip)))
(Rn [
mv 14 6,bc 15 .add 14 1,mv 6 15] [0,1,5,6]))))))
(Sn [
mv 26 5,mv 27 1,⟨some 28,.mkrow 1 1 [.int .i64 0] [(0,(.t 27))],none⟩,ap 29 1 26 28,mv 5 29] [0,5]
(.seq
(.block 2
(.loop [(0,none),(5,some 1)]
(.seq
(Sn [
mv 30 5,le 31 30,mv 32 0,le 33 32,⟨some 34,.bin .mul (.c (.int .i64 2)) (.t 33),none⟩,bt 35 .lss 31 34] [0,5,35]
(Cd 35
.skip
(.exit 2)))
(.block 3
(Rn [
mv 36 5,⟨some 37,.mkrow 1 1 [.int .i64 0] [(0,(.c (.int .i64 (-1))))],none⟩,ap 38 1 36 37,mv 5 38] [0,5])))))
(Sn [
mv 39 5,mv 4 39] [4]
.ret)))))),
[.tmp 4]⟩
theorem x16_ok:ck x16 16:=by decide+kernel
def x17:XFunc:=⟨2,
(Sn [
⟨some 4,.mov (.c (.sl 1 true [])),none⟩] [0,1]
(Sn [
⟨some 5,.mov (.c (.sl 1 true [])),none⟩,⟨some 6,.mov (.c (.sl 1 true [])),none⟩] [0,1,5,6]
(.seq
(Sn [
ic 7 0] [0,1,5,6,7]
(.block 0
(.loop [(0,none),(1,none),(5,some 1),(6,some 1),(7,none)]
(.seq
(Sn [
mv 9 7,mv 10 0,le 11 10,bt 12 .lss 9 11] [0,1,5,6,7,12]
(Cd 12
.skip
(.exit 0)))
(.seq
(.block 1
(Sn [
mv 15 0,mv 16 7,ia 17 1 15 16,ln 18 17,mv 8 18] [0,1,5,6,7,8]
(.seq
(Sn [
mv 19 8,mv 20 1,bt 21 .eql 19 20] [0,1,5,6,7,8,21]
(Cd 21
(Rn [
ic 8 (-1)] [0,1,5,6,7,8])
.skip))
(Sn [
mv 22 5,mv 23 8,⟨some 24,.mkrow 1 1 [.int .i64 0] [(0,(.t 23))],none⟩,ap 25 1 22 24,mv 5 25] [0,1,5,6,7,8]
(Sn [
mv 26 8,bc 27 .geq 26 0] [0,1,5,6,7,8,27]
(Cd 27
(Rn [
mv 28 6,mv 29 8,⟨some 30,.mkrow 1 1 [.int .i64 0] [(0,(.t 29))],none⟩,ap 31 1 28 30,mv 6 31] [0,1,5,6,7])
.skip))))))
(Rn [
mv 13 7,bc 14 .add 13 1,mv 7 14] [0,1,5,6,7]))))))
(.seq
(Sn [
mv 32 0,le 33 32,bc 34 .eql 33 1,mv 35 34,Gf 35 (mv 36 6),Gf 35 (le 37 36),Gf 35 (⟨some 38,.bin .mul (.c (.int .i64 4)) (.t 37),none⟩),Gf 35 (mv 39 0),
Gf 35 (le 40 39),Gf 35 (bt 41 .gtr 38 40),por 42 35 41] [0,5,6,42]
(Cd 42
(Sn [
mv 43 5,mv 4 43] [4]
.ret)
.skip))
(.seq
(.block 2
(.loop [(0,none),(6,some 1)]
(.seq
(Sn [
mv 44 6,le 45 44,mv 46 0,le 47 46,bc 48 .quo 47 2,bt 49 .lss 45 48] [0,6,49]
(Cd 49
.skip
(.exit 2)))
(.block 3
(Rn [
mv 50 6,⟨some 51,.mkrow 1 1 [.int .i64 0] [(0,(.c (.int .i64 (-1))))],none⟩,ap 52 1 50 51,mv 6 52] [0,6])))))
(Sn [
mv 53 6,mv 4 53] [4]
.ret)))))),
[.tmp 4]⟩
theorem x17_ok:ck x17 17:=by decide+kernel
end Go.Proofs.Ytmlghnibpjlchab
