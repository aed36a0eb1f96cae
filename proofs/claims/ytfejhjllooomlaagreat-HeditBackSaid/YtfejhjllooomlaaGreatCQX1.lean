/- The seat's functions as the logical machine runs them (reckoned), and the look at each of them. Printed by a program. -/
import Derived.Test.YtfejhjllooomlaaGreatCVm2
import Derived.Test.YtfejhjllooomlaaGreatProg
set_option maxRecDepth 100000
namespace Go.Proofs.YtfejhjllooomlaaGreat
open Go.Vm
abbrev md:FuncId->CM:=aTx [55,77,82,86,115,136,137,195,196] [78,90,219,258,268,286] [93,212,220,262,265,279,281,282]
abbrev mdX (l:List FuncId) (f:FuncId):CM:=bif has l f then .pur else md f
noncomputable abbrev cF (fn:Go.Func) (ks:List Nat):aP:=aQN Go.Proofs.Tryz.prog fn ⟨md,ks,[],[]⟩
noncomputable abbrev cG (fn:Go.Func) (m:FuncId->CM) (ks:List Nat) (a:List (Nat×List (Nat×Nat))) (b:List (Nat×List (Nat×Option Nat))):aP:=aQN Go.Proofs.Tryz.prog fn ⟨m,ks,a,b⟩
noncomputable def x7:aP:=cF Tryz.f7 [28,156,0x20009c,64,924,0x4000019c,3212,0x400000000000008c,64,0x200000000000000008c,64,12424,64]
theorem aQV:aD Go.Proofs.Tryz.prog (fun _=>true) x7 7=true:=by decide+kernel
noncomputable def x11:aP:=cF Tryz.f11 [2,4]
theorem aLi:aD Go.Proofs.Tryz.prog (fun _=>true) x11 11=true:=by decide+kernel
noncomputable def x12:aP:=cF Tryz.f12 [2,4]
theorem aLj:aD Go.Proofs.Tryz.prog (fun _=>true) x12 12=true:=by decide+kernel
noncomputable def x13:aP:=cF Tryz.f13 [2,524290,4,10,10,0x100000a,0x100000000a,4,26,26,0x800000001a,0x1000000000001a,4,26,10,0x800000000000000,4,4]
theorem aLk:aD Go.Proofs.Tryz.prog (fun _=>true) x13 13=true:=by decide+kernel
noncomputable def x15:aP:=cF Tryz.f15 [12,96,0x200060,0x4000000,16,16,0x20000060,16,16]
theorem aLl:aD Go.Proofs.Tryz.prog (fun _=>true) x15 15=true:=by decide+kernel
noncomputable def x17:aP:=cF Tryz.f17 [12,16]
theorem aLm:aD Go.Proofs.Tryz.prog (fun _=>true) x17 17=true:=by decide+kernel
noncomputable def x19:aP:=cF Tryz.f19 [2,258,4,10,10,8202,0x40000a,4,10,18,18,0x8000012,0x80000000012,4,18,4]
theorem aLn:aD Go.Proofs.Tryz.prog (fun _=>true) x19 19=true:=by decide+kernel
noncomputable def x21:aP:=cF Tryz.f21 [12,4108,16,44,44,131116,0x4000002c,16,44,16]
theorem aLo:aD Go.Proofs.Tryz.prog (fun _=>true) x21 21=true:=by decide+kernel
noncomputable def x22:aP:=cF Tryz.f22 [60,256]
theorem aLp:aD Go.Proofs.Tryz.prog (fun _=>true) x22 22=true:=by decide+kernel
noncomputable def x25:aP:=cF Tryz.f25 [12,16]
theorem aLq:aD Go.Proofs.Tryz.prog (fun _=>true) x25 25=true:=by decide+kernel
noncomputable def x26:aP:=cF Tryz.f26 [2,0x100000,4,4]
theorem aLr:aD Go.Proofs.Tryz.prog (fun _=>true) x26 26=true:=by decide+kernel
noncomputable def x29:aP:=cF Tryz.f29 [9,41,41,553,131113,16,41,16]
theorem aLs:aD Go.Proofs.Tryz.prog (fun _=>true) x29 29=true:=by decide+kernel
noncomputable def x30:aP:=cF Tryz.f30 [56,64]
theorem aLt:aD Go.Proofs.Tryz.prog (fun _=>true) x30 30=true:=by decide+kernel
noncomputable def x32:aP:=cF Tryz.f32 [28,92,32860,48,412,0x800019c,48,660,1684,660,48]
theorem aLu:aD Go.Proofs.Tryz.prog (fun _=>true) x32 32=true:=by decide+kernel
noncomputable def x34:aP:=cF Tryz.f34 [28,92,32860,48,412,0x800019c,48,668,3740,660,48]
theorem aLv:aD Go.Proofs.Tryz.prog (fun _=>true) x34 34=true:=by decide+kernel
noncomputable def x36:aP:=cF Tryz.f36 [0,6,30,1]
theorem aLw:aD Go.Proofs.Tryz.prog (fun _=>true) x36 36=true:=by decide+kernel
noncomputable def x37:aP:=cF Tryz.f37 [2,4]
theorem aLx:aD Go.Proofs.Tryz.prog (fun _=>true) x37 37=true:=by decide+kernel
noncomputable def x38:aP:=cF Tryz.f38 [22,86,131158,48,406,0x20000196,48,662,3732,3732,3732,0x20000000000694,13972,660,48]
theorem aLy:aD Go.Proofs.Tryz.prog (fun _=>true) x38 38=true:=by decide+kernel
noncomputable def x39:aP:=cF Tryz.f39 [5,4]
theorem aLz:aD Go.Proofs.Tryz.prog (fun _=>true) x39 39=true:=by decide+kernel
noncomputable def x40:aP:=cF Tryz.f40 [6,38,38,1062,0x100026,16,38,16]
theorem aLA:aD Go.Proofs.Tryz.prog (fun _=>true) x40 40=true:=by decide+kernel
noncomputable def x43:aP:=cF Tryz.f43 [3,35,35,547,131107,16,35,16]
theorem aLB:aD Go.Proofs.Tryz.prog (fun _=>true) x43 43=true:=by decide+kernel
noncomputable def x44:aP:=cF Tryz.f44 [2,0x40000000,4,4]
theorem aLC:aD Go.Proofs.Tryz.prog (fun _=>true) x44 44=true:=by decide+kernel
noncomputable def x45:aP:=cF Tryz.f45 [28,92,8284,48,156,524444,48,796,0x2000011c,48,0x40000011c,48,48]
theorem aLD:aD Go.Proofs.Tryz.prog (fun _=>true) x45 45=true:=by decide+kernel
noncomputable def x47:aP:=cF Tryz.f47 [22,212,32980,48,48]
theorem aLE:aD Go.Proofs.Tryz.prog (fun _=>true) x47 47=true:=by decide+kernel
noncomputable def x48:aP:=cF Tryz.f48 [28,92,16476,48,156,0x10009c,48,796,0x8000031c,48,1304,1040,48]
theorem aLF:aD Go.Proofs.Tryz.prog (fun _=>true) x48 48=true:=by decide+kernel
noncomputable def x51:aP:=cF Tryz.f51 [3,1027,16,35,35,16419,0x2000023,16,35,16]
theorem aLG:aD Go.Proofs.Tryz.prog (fun _=>true) x51 51=true:=by decide+kernel
noncomputable def x52:aP:=cF Tryz.f52 [2,4]
theorem aLH:aD Go.Proofs.Tryz.prog (fun _=>true) x52 52=true:=by decide+kernel
noncomputable def x53:aP:=cF Tryz.f53 [2,0x100000000000002,4,10,26,26,0x400000000000001a,58,250,0x40000000000000000007a,0x400000000000000000000007a,4,890,0x2000000000000000000000000000001a,4,26,26,0x1000000000000000000000000000000000,4,4]
theorem aLI:aD Go.Proofs.Tryz.prog (fun _=>true) x53 53=true:=by decide+kernel
noncomputable def x54:aP:=cF Tryz.f54 [6,4102,16,38,38,65574,0x4000000026,16,38,16]
theorem aLJ:aD Go.Proofs.Tryz.prog (fun _=>true) x54 54=true:=by decide+kernel
noncomputable def x55:aP:=cG Tryz.f55 md [1,9,25,25,281,25,25,4] [(0,[(3,2)])] []
theorem aLK:aD Go.Proofs.Tryz.prog (fun _=>true) x55 55=true:=by decide+kernel
noncomputable def x56:aP:=cF Tryz.f56 [19,51,48,16]
theorem aLL:aD Go.Proofs.Tryz.prog (fun _=>true) x56 56=true:=by decide+kernel
noncomputable def x57:aP:=cF Tryz.f57 [2,1026,4,4096,4,4]
theorem aLM:aD Go.Proofs.Tryz.prog (fun _=>true) x57 57=true:=by decide+kernel
noncomputable def x58:aP:=cF Tryz.f58 [12,524,16384,16,16,524300,0x1000000,16,16,16]
theorem aLN:aD Go.Proofs.Tryz.prog (fun _=>true) x58 58=true:=by decide+kernel
noncomputable def x59:aP:=cF Tryz.f59 [2,0x400002,4,0x1c000002,0x1c000002,0x3c000002,0x1c000012,0x201c000002,4,0x1c000002,34,0x2000000000022,4,0xe0000000000022,0xe0000000000022,0x1e0000000000022,0xe00000000000a2,0x800000e0000000000022,4,0xe0000000000022,4]
theorem aLO:aD Go.Proofs.Tryz.prog (fun _=>true) x59 59=true:=by decide+kernel
noncomputable def x60:aP:=cF Tryz.f60 [2,0x100000,4,4]
theorem aLP:aD Go.Proofs.Tryz.prog (fun _=>true) x60 60=true:=by decide+kernel
noncomputable def x61:aP:=cF Tryz.f61 [12,76,4172,48,0x10000c,48,132,0x8000000080,128,48]
theorem aLQ:aD Go.Proofs.Tryz.prog (fun _=>true) x61 61=true:=by decide+kernel
noncomputable def x65:aP:=cF Tryz.f65 [12,0x8000000000c,16,44,44,0x100000000002c,0x200000000000002c,16,44,16]
theorem aLR:aD Go.Proofs.Tryz.prog (fun _=>true) x65 65=true:=by decide+kernel
noncomputable def x68:aP:=cF Tryz.f68 [92,229468,229468,491612,229980,0x203825c,229468,229468,92,0x1000000005c,1100,0x100000000044c,192,0x38000000000048,0x38000000000048,0x78000000000048,0x38000000001048,0x2038000000001048,0x38000000000448,0x400038000000000448,192,0x38000000000048,192]
theorem aLS:aD Go.Proofs.Tryz.prog (fun _=>true) x68 68=true:=by decide+kernel
noncomputable def x69:aP:=cG Tryz.f69 md [1,9,25,25,281,25,25,4] [(0,[(3,2)])] []
theorem aLT:aD Go.Proofs.Tryz.prog (fun _=>true) x69 69=true:=by decide+kernel
noncomputable def x70:aP:=cF Tryz.f70 [56,152,8344,64,0x100018,64,64]
theorem aLU:aD Go.Proofs.Tryz.prog (fun _=>true) x70 70=true:=by decide+kernel
noncomputable def x72:aP:=cF Tryz.f72 [3,3,67,3,16]
theorem aLV:aD Go.Proofs.Tryz.prog (fun _=>true) x72 72=true:=by decide+kernel
noncomputable def x73:aP:=cF Tryz.f73 [1,17,4,4]
theorem aLW:aD Go.Proofs.Tryz.prog (fun _=>true) x73 73=true:=by decide+kernel
noncomputable def x77:aP:=cF Tryz.f77 [6,4]
theorem aLX:aD Go.Proofs.Tryz.prog (fun _=>true) x77 77=true:=by decide+kernel
noncomputable def x78:aP:=cF Tryz.f78 [56,288,352,192,192]
theorem aLY:aD Go.Proofs.Tryz.prog (fun _=>true) x78 78=true:=by decide+kernel
noncomputable def x79:aP:=cF Tryz.f79 [92,836,525124,192,192]
theorem aLZ:aD Go.Proofs.Tryz.prog (fun _=>true) x79 79=true:=by decide+kernel
noncomputable def x82:aP:=cF Tryz.f82 [60,568,568,0x20000238,568,568,256]
theorem aL0:aD Go.Proofs.Tryz.prog (fun _=>true) x82 82=true:=by decide+kernel
noncomputable def x83:aP:=cF Tryz.f83 [3,387,387,899,419,65955,16,387,16]
theorem aL1:aD Go.Proofs.Tryz.prog (fun _=>true) x83 83=true:=by decide+kernel
noncomputable def x85:aP:=cF Tryz.f85 [1,3,5,1]
theorem aL2:aD Go.Proofs.Tryz.prog (fun _=>true) x85 85=true:=by decide+kernel
noncomputable def x86:aP:=cF Tryz.f86 [6,4]
theorem aL3:aD Go.Proofs.Tryz.prog (fun _=>true) x86 86=true:=by decide+kernel
noncomputable def x87:aP:=cF Tryz.f87 [2,2050,4,57346,57346,122882,57362,57378,0x40e022,4,57346,0x1c000002,0x1c000002,0x3c000002,0x1c0000c2,0x40001c000002,4,0x1c000002,4]
theorem aL4:aD Go.Proofs.Tryz.prog (fun _=>true) x87 87=true:=by decide+kernel
noncomputable def x88:aP:=cF Tryz.f88 [2,10,0x800000,4,4]
theorem aL5:aD Go.Proofs.Tryz.prog (fun _=>true) x88 88=true:=by decide+kernel
noncomputable def x89:aP:=cF Tryz.f89 [6,48]
theorem aL6:aD Go.Proofs.Tryz.prog (fun _=>true) x89 89=true:=by decide+kernel
noncomputable def x92:aP:=cF Tryz.f92 [6,70,4166,48,384,0x200080,48,48]
theorem aL7:aD Go.Proofs.Tryz.prog (fun _=>true) x92 92=true:=by decide+kernel
noncomputable def x93:aP:=cF Tryz.f93 [7,7,65543,64,135,129,1,64]
theorem aL8:aD Go.Proofs.Tryz.prog (fun _=>true) x93 93=true:=by decide+kernel
noncomputable def x94:aP:=cF Tryz.f94 [2,4]
theorem aL9:aD Go.Proofs.Tryz.prog (fun _=>true) x94 94=true:=by decide+kernel
noncomputable def x95:aP:=cF Tryz.f95 [2,4]
theorem aMa:aD Go.Proofs.Tryz.prog (fun _=>true) x95 95=true:=by decide+kernel
noncomputable def x96:aP:=cF Tryz.f96 [2,524290,4,10,10,0x100000a,26,0x800000000000001a,4,58,58,0x4000000000000003a,0x2000000000000000003a,4,58,10,4]
theorem aMb:aD Go.Proofs.Tryz.prog (fun _=>true) x96 96=true:=by decide+kernel
noncomputable def x97:aP:=cF Tryz.f97 [12,44,44,1068,0x40000002c,16,44,16]
theorem aMc:aD Go.Proofs.Tryz.prog (fun _=>true) x97 97=true:=by decide+kernel
noncomputable def x98:aP:=cF Tryz.f98 [2,32770,4,10,10,0x10000a,26,0x2000000001a,4,58,58,0x10000000003a,0x8000000000003a,4,58,10,66,66,0x1000000000000042,0x8000000000000000042,4,66,4]
theorem aMd:aD Go.Proofs.Tryz.prog (fun _=>true) x98 98=true:=by decide+kernel
noncomputable def x99:aP:=cF Tryz.f99 [120,192]
theorem aMe:aD Go.Proofs.Tryz.prog (fun _=>true) x99 99=true:=by decide+kernel
noncomputable def aMf:aP:=cF Tryz.f100 [28,284,48,16412,48,48]
theorem aEe:aD Go.Proofs.Tryz.prog (fun _=>true) aMf 100=true:=by decide+kernel
noncomputable def aMg:aP:=cF Tryz.f101 [12,44,44,1068,0x10002c,16,44,16]
theorem aEf:aD Go.Proofs.Tryz.prog (fun _=>true) aMg 101=true:=by decide+kernel
noncomputable def aMh:aP:=cF Tryz.f102 [19,496,1008,1776,3760,16]
theorem aEg:aD Go.Proofs.Tryz.prog (fun _=>true) aMh 102=true:=by decide+kernel
noncomputable def aMi:aP:=cF Tryz.f103 [2,0x7000002,0x7000002,0xf000002,0x7000012,0x87000002,4,0x7000002,0x800000000002,4,34,0x70000000000022,0x70000000000022,0xf0000000000022,0x700000000000a2,0x700000000007a2,0x4000700000000003a2,4,0x10000700000000001a2,0x10000000700000000001a2,4,0x700000000009a2,0x40000000000000000070000000000022,4,0x70000000000022,0x70000000000022,0x1000000000000000000000000000000000,4,4]
theorem aEh:aD Go.Proofs.Tryz.prog (fun _=>true) aMi 103=true:=by decide+kernel
noncomputable def aMj:aP:=cF Tryz.f104 [3,16]
theorem aEi:aD Go.Proofs.Tryz.prog (fun _=>true) aMj 104=true:=by decide+kernel
noncomputable def aMk:aP:=cF Tryz.f105 [9,16]
theorem aEj:aD Go.Proofs.Tryz.prog (fun _=>true) aMk 105=true:=by decide+kernel
noncomputable def aMl:aP:=cF Tryz.f106 [60,568,2592,8192,256]
theorem aEk:aD Go.Proofs.Tryz.prog (fun _=>true) aMl 106=true:=by decide+kernel
noncomputable def aMm:aP:=cF Tryz.f107 [3,3,67,3,16]
theorem aEl:aD Go.Proofs.Tryz.prog (fun _=>true) aMm 107=true:=by decide+kernel
noncomputable def aMn:aP:=cF Tryz.f108 [1,17,4,4]
theorem aEm:aD Go.Proofs.Tryz.prog (fun _=>true) aMn 108=true:=by decide+kernel
noncomputable def aMo:aP:=cF Tryz.f109 [12,16]
theorem aEn:aD Go.Proofs.Tryz.prog (fun _=>true) aMo 109=true:=by decide+kernel
noncomputable def aMp:aP:=cF Tryz.f110 [3,35,99,2115,4096,16,16,8195,16,65539,16,524288,16,16]
theorem aEo:aD Go.Proofs.Tryz.prog (fun _=>true) aMp 110=true:=by decide+kernel
noncomputable def aMq:aP:=cF Tryz.f111 [12,44,4140,16,16]
theorem aEp:aD Go.Proofs.Tryz.prog (fun _=>true) aMq 111=true:=by decide+kernel
noncomputable def aMr:aP:=cF Tryz.f112 [19,115,16]
theorem aEq:aD Go.Proofs.Tryz.prog (fun _=>true) aMr 112=true:=by decide+kernel
noncomputable def aMs:aP:=cF Tryz.f115 [6,6,6,14,6,4]
theorem aEr:aD Go.Proofs.Tryz.prog (fun _=>true) aMs 115=true:=by decide+kernel
noncomputable def aMt:aP:=cF Tryz.f116 [12,524300,16,44,44,0x100002c,0x200000002c,16,44,16]
theorem aEs:aD Go.Proofs.Tryz.prog (fun _=>true) aMt 116=true:=by decide+kernel
noncomputable def aMu:aP:=cF Tryz.f117 [12,0x1000000c,16,44,44,0x20000002c,0x40000000002c,16,44,16]
theorem aEt:aD Go.Proofs.Tryz.prog (fun _=>true) aMu 117=true:=by decide+kernel
noncomputable def aMv:aP:=cF Tryz.f119 [22,86,8278,48,656,48]
theorem aEu:aD Go.Proofs.Tryz.prog (fun _=>true) aMv 119=true:=by decide+kernel
noncomputable def aMw:aP:=cF Tryz.f120 [3,1027,16,12291,12291,28675,12323,0x1003003,16,12291,16]
theorem aEv:aD Go.Proofs.Tryz.prog (fun _=>true) aMw 120=true:=by decide+kernel
noncomputable def aMx:aP:=cG Tryz.f121 (mdX [115]) [28,92,0x40005c,48,156,0x1000009c,48,0xe0000001c,0xe0000001c,0x1e0000001c,0xe0000021c,0x40000e0000001c,48,0xe0000001c,1052,1052,0x38000000000000041c,0x38000000000000041c,0x78000000000000041c,0x38000000000000141c,0x38000000000000f41c,0x38000000000003f41c,0x8000038000000000003f41c,0x38000000000001841c,0x38000000000000841c,0x100000000000038000000000003b41c,0x38000000000004341c,0x38000000000004341c,0x38000000000004841c,0x38000000000000841c,0x80000000000000000038000000000001841c,0x38000000000000841c,0x1000000000000000000000038000000000000841c,48,0x38000000000000041c,48] [] [(1,[(10,some 11003)])]
theorem aEw:aD Go.Proofs.Tryz.prog (fun _=>true) aMx 121=true:=by decide+kernel
noncomputable def aMy:aP:=cF Tryz.f122 [3,16]
theorem aEx:aD Go.Proofs.Tryz.prog (fun _=>true) aMy 122=true:=by decide+kernel
noncomputable def aMz:aP:=cF Tryz.f123 [6,8]
theorem aEy:aD Go.Proofs.Tryz.prog (fun _=>true) aMz 123=true:=by decide+kernel
noncomputable def aMA:aP:=cF Tryz.f124 [28,156,412,0x20019c,112,3740,0x2000000e9c,112,0x800000000000e9c,112,0x40000000000000e9c,112,5788,5276,31892,0x10000000000000000007c94,112,0x800000000000000000003494,234640,0x400000000000000000000039490,112,5136,112]
theorem aEz:aD Go.Proofs.Tryz.prog (fun _=>true) aMA 124=true:=by decide+kernel
noncomputable def aMB:aP:=cF Tryz.f125 [56,64]
theorem aEA:aD Go.Proofs.Tryz.prog (fun _=>true) aMB 125=true:=by decide+kernel
noncomputable def aMC:aP:=cF Tryz.f128 [56,312,16696,192,192]
theorem aEB:aD Go.Proofs.Tryz.prog (fun _=>true) aMC 128=true:=by decide+kernel
noncomputable def aMD:aP:=cF Tryz.f131 [28,92,4188,48,524316,48,48]
theorem aEC:aD Go.Proofs.Tryz.prog (fun _=>true) aMD 131=true:=by decide+kernel
noncomputable def aME:aP:=cF Tryz.f136 [6,4]
theorem aED:aD Go.Proofs.Tryz.prog (fun _=>true) aME 136=true:=by decide+kernel
noncomputable def aMF:aP:=cF Tryz.f137 [6,4]
theorem aEE:aD Go.Proofs.Tryz.prog (fun _=>true) aMF 137=true:=by decide+kernel
noncomputable def aAY:aP:=cF Tryz.f138 [31,286,1296,4096,128]
theorem aEF:aD Go.Proofs.Tryz.prog (fun _=>true) aAY 138=true:=by decide+kernel
noncomputable def aMG:aP:=cF Tryz.f139 [22,212,32980,48,48]
theorem aEG:aD Go.Proofs.Tryz.prog (fun _=>true) aMG 139=true:=by decide+kernel
noncomputable def aAZ:aP:=cF Tryz.f140 [7,7,16391,7,7,16]
theorem aEH:aD Go.Proofs.Tryz.prog (fun _=>true) aAZ 140=true:=by decide+kernel
noncomputable def aA0:aP:=cF Tryz.f141 [7,7,39,103,103,0x200067,0x8000067,103,103,0x80000027,16,38,7]
theorem aEI:aD Go.Proofs.Tryz.prog (fun _=>true) aA0 141=true:=by decide+kernel
noncomputable def aMH:aP:=cF Tryz.f142 [92,348,0x80015c,192,604,0x2000025c,192,0x70000005c,0x70000005c,0xf0000005c,0x70000085c,0x400000070000005c,192,0x70000005c,0xe000000000000005c,0xe000000000000005c,0x1e000000000000005c,0xe000000000000305c,0x100e000000000000005c,192,0xe000000000000005c,0x38000000000000000005c,0x38000000000000000005c,0x78000000000000000005c,0x38000000000000000805c,0x38000000000000002805c,0x3800000000000000a005c,0x10000038000000000000000005c,192,0x38000000000000000005c,192]
theorem aEJ:aD Go.Proofs.Tryz.prog (fun _=>true) aMH 142=true:=by decide+kernel
noncomputable def aMI:aP:=cG Tryz.f143 md [1,9,3081,3081,7177,3097,3081,3081,4] [(0,[(3,2)])] []
theorem aEK:aD Go.Proofs.Tryz.prog (fun _=>true) aMI 143=true:=by decide+kernel
noncomputable def aMJ:aP:=cG Tryz.f144 (mdX [77]) [92,348,860,860,0x80035c,0x80000035c,860,860,0x2000000000154,3396,0x200000000000d44,192,324,4420,4420,0x10000000000001144,0x2000000000000001144,45380,0x200000000000000000b144,192,4420,4420,192] [] []
theorem aEL:aD Go.Proofs.Tryz.prog (fun _=>true) aMJ 144=true:=by decide+kernel
noncomputable def aMK:aP:=cG Tryz.f146 md [28,408,920,920,0x2000398,6040,30616,6040,103320,0x10000000000019398,112,920,112] [(0,[(9,2)])] []
theorem aEM:aD Go.Proofs.Tryz.prog (fun _=>true) aMK 146=true:=by decide+kernel
noncomputable def aML:aP:=cG Tryz.f147 md [28,60,124,124,8316,124,124,176,16] [(0,[(5,1)])] []
theorem aEN:aD Go.Proofs.Tryz.prog (fun _=>true) aML 147=true:=by decide+kernel
noncomputable def aMM:aP:=cF Tryz.f148 [1,4]
theorem aEO:aD Go.Proofs.Tryz.prog (fun _=>true) aMM 148=true:=by decide+kernel
noncomputable def aMN:aP:=cF Tryz.f149 [7,263,1799,1799,132871,3847,0x80000f07,1799,1799,192]
theorem aEP:aD Go.Proofs.Tryz.prog (fun _=>true) aMN 149=true:=by decide+kernel
noncomputable def aMO:aP:=cF Tryz.f150 [6,16]
theorem aEQ:aD Go.Proofs.Tryz.prog (fun _=>true) aMO 150=true:=by decide+kernel
noncomputable def aMP:aP:=cF Tryz.f151 [3,35,99,2115,4096,16,16,8195,16,65539,16,524288,16,16]
theorem aER:aD Go.Proofs.Tryz.prog (fun _=>true) aMP 151=true:=by decide+kernel
noncomputable def aMQ:aP:=cF Tryz.f154 [2,4]
theorem aES:aD Go.Proofs.Tryz.prog (fun _=>true) aMQ 154=true:=by decide+kernel
noncomputable def aMR:aP:=cF Tryz.f155 [2,4]
theorem aET:aD Go.Proofs.Tryz.prog (fun _=>true) aMR 155=true:=by decide+kernel
noncomputable def aMS:aP:=cF Tryz.f156 [2,10,0x2000000a,4,26,58,58,0x100000003a,0x800000000000003a,4,58,58,90,90,0x200000000000000005a,0x10000000000000000000000000005a,4,90,4]
theorem aEU:aD Go.Proofs.Tryz.prog (fun _=>true) aMS 156=true:=by decide+kernel
noncomputable def aMT:aP:=cF Tryz.f157 [2,10,0x400000a,4,26,26,0x2000001a,0x400000001a,0x10000000001a,4,58,0x20000000000000000001a,4,26,4]
theorem aEV:aD Go.Proofs.Tryz.prog (fun _=>true) aMT 157=true:=by decide+kernel
noncomputable def aMU:aP:=cF Tryz.f158 [12,44,16]
theorem aEW:aD Go.Proofs.Tryz.prog (fun _=>true) aMU 158=true:=by decide+kernel
noncomputable def aMV:aP:=cF Tryz.f159 [120,2168,192,131160,192,192]
theorem aEX:aD Go.Proofs.Tryz.prog (fun _=>true) aMV 159=true:=by decide+kernel
noncomputable def aMW:aP:=cF Tryz.f160 [12,16]
theorem aEY:aD Go.Proofs.Tryz.prog (fun _=>true) aMW 160=true:=by decide+kernel
noncomputable def aMX:aP:=cF Tryz.f161 [2,0x100002,4,26,0x380001a,0x380001a,0x780001a,0x380005a,0x800000380004a,4,0x380001a,0x380001a,4]
theorem aEZ:aD Go.Proofs.Tryz.prog (fun _=>true) aMX 161=true:=by decide+kernel
noncomputable def aMY:aP:=cF Tryz.f162 [2,0x1000000002,4,0x1c000000002,0x1c000000002,0x3c000000002,0x1c00000001a,0x801c00000001a,0x2001c000000002,4,0x8000000001c000000002,4,0x1c000000002,34,0x3800000000000000000022,0x3800000000000000000022,0x7800000000000000000022,0x38000000000000000000e2,0x20000038000000000000000000e2,4,0x38000000000000000000e2,0x40000000003800000000000000000022,4,0x3800000000000000000022,4]
theorem aE0:aD Go.Proofs.Tryz.prog (fun _=>true) aMY 162=true:=by decide+kernel
noncomputable def aMZ:aP:=cF Tryz.f163 [120,448]
theorem aE1:aD Go.Proofs.Tryz.prog (fun _=>true) aMZ 163=true:=by decide+kernel
noncomputable def aM0:aP:=cF Tryz.f164 [9,393,393,905,425,65961,16,393,16]
theorem aE2:aD Go.Proofs.Tryz.prog (fun _=>true) aM0 164=true:=by decide+kernel
noncomputable def aM1:aP:=cF Tryz.f165 [1,4]
theorem aE3:aD Go.Proofs.Tryz.prog (fun _=>true) aM1 165=true:=by decide+kernel
noncomputable def aM2:aP:=cF Tryz.f166 [3,35,99,2115,4096,16,16,8195,16,65539,16,524288,16,16]
theorem aE4:aD Go.Proofs.Tryz.prog (fun _=>true) aM2 166=true:=by decide+kernel
noncomputable def aM3:aP:=cF Tryz.f167 [3,67,195,451,963,1987,2755,6851,12995,12931,19,48]
theorem aE5:aD Go.Proofs.Tryz.prog (fun _=>true) aM3 167=true:=by decide+kernel
noncomputable def aM4:aP:=cF Tryz.f168 [54,950,0x20003b6,112,1462,1334,7476,0x10000000d34,44336,0x8000000000ad30,112,1328,112]
theorem aE6:aD Go.Proofs.Tryz.prog (fun _=>true) aM4 168=true:=by decide+kernel
noncomputable def aM5:aP:=cF Tryz.f174 [12,16]
theorem aE7:aD Go.Proofs.Tryz.prog (fun _=>true) aM5 174=true:=by decide+kernel
noncomputable def aM6:aP:=cF Tryz.f175 [3,1027,16,35,35,16419,0x2000023,16,35,16]
theorem aE8:aD Go.Proofs.Tryz.prog (fun _=>true) aM6 175=true:=by decide+kernel
noncomputable def aM7:aP:=cF Tryz.f178 [22,116,32820,16,16]
theorem aE9:aD Go.Proofs.Tryz.prog (fun _=>true) aM7 178=true:=by decide+kernel
noncomputable def aM8:aP:=cF Tryz.f179 [3,48]
theorem aFa:aD Go.Proofs.Tryz.prog (fun _=>true) aM8 179=true:=by decide+kernel
noncomputable def aM9:aP:=cF Tryz.f180 [120,376,524664,192,1640,0x20000668,192,2656,6752,6720,2112,192]
theorem aFb:aD Go.Proofs.Tryz.prog (fun _=>true) aM9 180=true:=by decide+kernel
noncomputable def aNa:aP:=cF Tryz.f181 [248,760,0x2002f8,448,0x400000f8,448,0x10000000f8,448,7416,0x800000001cf8,448,11504,27840,26816,10432,448]
theorem aFc:aD Go.Proofs.Tryz.prog (fun _=>true) aNa 181=true:=by decide+kernel
noncomputable def aNb:aP:=cF Tryz.f182 [60,436,65972,112,112]
theorem aFd:aD Go.Proofs.Tryz.prog (fun _=>true) aNb 182=true:=by decide+kernel
noncomputable def aNc:aP:=cF Tryz.f183 [3,387,387,899,419,65955,16,387,16]
theorem aFe:aD Go.Proofs.Tryz.prog (fun _=>true) aNc 183=true:=by decide+kernel
noncomputable def aNd:aP:=cF Tryz.f184 [5,28]
theorem aFf:aD Go.Proofs.Tryz.prog (fun _=>true) aNd 184=true:=by decide+kernel
noncomputable def aNe:aP:=cF Tryz.f185 [28,156,4252,112,131100,112,0x40001c,112,0x10000001c,112,276,112]
theorem aFg:aD Go.Proofs.Tryz.prog (fun _=>true) aNe 185=true:=by decide+kernel
noncomputable def aNf:aP:=cF Tryz.f186 [28,4124,52,0x40000030,48,16,0x800000001c,84,80,16,152,144,16]
theorem aFh:aD Go.Proofs.Tryz.prog (fun _=>true) aNf 186=true:=by decide+kernel
noncomputable def aNg:aP:=cF Tryz.f189 [56,152,65688,64,0x400000,64,64]
theorem aFi:aD Go.Proofs.Tryz.prog (fun _=>true) aNg 189=true:=by decide+kernel
noncomputable def aNh:aP:=cF Tryz.f190 [56,152,0x10000098,0x80000000,64,64,64]
theorem aFj:aD Go.Proofs.Tryz.prog (fun _=>true) aNh 190=true:=by decide+kernel
noncomputable def aNi:aP:=cF Tryz.f192 [19,275,48,83,48]
theorem aFk:aD Go.Proofs.Tryz.prog (fun _=>true) aNi 192=true:=by decide+kernel
noncomputable def aNj:aP:=cF Tryz.f194 [1,9,456,456,968,488,16872,4,456,4]
theorem aFl:aD Go.Proofs.Tryz.prog (fun _=>true) aNj 194=true:=by decide+kernel
noncomputable def aNk:aP:=cF Tryz.f195 [6,4]
theorem aFm:aD Go.Proofs.Tryz.prog (fun _=>true) aNk 195=true:=by decide+kernel
noncomputable def aNl:aP:=cF Tryz.f196 [6,6,6,6,14,14,6,4]
theorem aFn:aD Go.Proofs.Tryz.prog (fun _=>true) aNl 196=true:=by decide+kernel
noncomputable def aNm:aP:=cF Tryz.f197 [22,54,54,116,262260,116,48,16]
theorem aFo:aD Go.Proofs.Tryz.prog (fun _=>true) aNm 197=true:=by decide+kernel
noncomputable def aNn:aP:=cG Tryz.f198 (mdX [77,86]) [28,92,92,92,220,220,0x20000dc,476,988,4060,0x8000000000fdc,4060,4060,0x40000000000000000fdc,4060,0x4000000000000000000005dc,0x80000000000000000000005dc,48,12764,8668,220,220,48] [] [(0,[(6,some 11003)])]
theorem aFp:aD Go.Proofs.Tryz.prog (fun _=>true) aNn 198=true:=by decide+kernel
noncomputable def aNo:aP:=cF Tryz.f199 [28,924,0x100039c,112,1436,1308,7444,0x20000000d14,112,0x1000000000d14,112,25872,17680,1296,112]
theorem aFq:aD Go.Proofs.Tryz.prog (fun _=>true) aNo 199=true:=by decide+kernel
noncomputable def aNp:aP:=cF Tryz.f200 [30,62,126,252,252,28]
theorem aFr:aD Go.Proofs.Tryz.prog (fun _=>true) aNp 200=true:=by decide+kernel
noncomputable def aNq:aP:=cF Tryz.f201 [28,56,48,16]
theorem aFs:aD Go.Proofs.Tryz.prog (fun _=>true) aNq 201=true:=by decide+kernel
noncomputable def aNr:aP:=cF Tryz.f202 [28,16]
theorem aFt:aD Go.Proofs.Tryz.prog (fun _=>true) aNr 202=true:=by decide+kernel
noncomputable def aNs:aP:=cF Tryz.f203 [1,4]
theorem aFu:aD Go.Proofs.Tryz.prog (fun _=>true) aNs 203=true:=by decide+kernel
noncomputable def aNt:aP:=cF Tryz.f205 [28,48,16]
theorem aFv:aD Go.Proofs.Tryz.prog (fun _=>true) aNt 205=true:=by decide+kernel
noncomputable def aNu:aP:=cF Tryz.f206 [2,4]
theorem aFw:aD Go.Proofs.Tryz.prog (fun _=>true) aNu 206=true:=by decide+kernel
noncomputable def aNv:aP:=cF Tryz.f207 [2,10,0x80000a,4,26,50,0x800000002,4,0xe000000002,0xe000000002,0x1e000000002,0xe0000000c2,0x100000e000000002,4,0xe000000002,4]
theorem aFx:aD Go.Proofs.Tryz.prog (fun _=>true) aNv 207=true:=by decide+kernel
noncomputable def aNw:aP:=cF Tryz.f208 [12,44,16]
theorem aFy:aD Go.Proofs.Tryz.prog (fun _=>true) aNw 208=true:=by decide+kernel
noncomputable def aNx:aP:=cF Tryz.f209 [120,632,131704,448,0x1000078,448,0x40000058,448,3136,448]
theorem aFz:aD Go.Proofs.Tryz.prog (fun _=>true) aNx 209=true:=by decide+kernel
noncomputable def aNy:aP:=cF Tryz.f210 [1,4]
theorem aFA:aD Go.Proofs.Tryz.prog (fun _=>true) aNy 210=true:=by decide+kernel
noncomputable def aNz:aP:=cF Tryz.f211 [54,436,65972,112,112]
theorem aFB:aD Go.Proofs.Tryz.prog (fun _=>true) aNz 211=true:=by decide+kernel
noncomputable def aNA:aP:=cF Tryz.f212 [7,7,65543,64,135,129,1,64]
theorem aFC:aD Go.Proofs.Tryz.prog (fun _=>true) aNA 212=true:=by decide+kernel
noncomputable def aNB:aP:=cF Tryz.f213 [3,1027,16,35,35,16419,0x2000023,16,35,16]
theorem aFD:aD Go.Proofs.Tryz.prog (fun _=>true) aNB 213=true:=by decide+kernel
noncomputable def aNC:aP:=cF Tryz.f215 [6,16]
theorem aFE:aD Go.Proofs.Tryz.prog (fun _=>true) aNC 215=true:=by decide+kernel
noncomputable def aND:aP:=cF Tryz.f216 [7,263,1799,1799,132871,3847,0x80000f07,1799,1799,192]
theorem aFF:aD Go.Proofs.Tryz.prog (fun _=>true) aND 216=true:=by decide+kernel
noncomputable def aNE:aP:=cF Tryz.f217 [6,16]
theorem aFG:aD Go.Proofs.Tryz.prog (fun _=>true) aNE 217=true:=by decide+kernel
noncomputable def aNF:aP:=cF Tryz.f218 [12,76,4172,48,396,0x400000c,48,48]
theorem aFH:aD Go.Proofs.Tryz.prog (fun _=>true) aNF 218=true:=by decide+kernel
noncomputable def aA1:aP:=cF Tryz.f219 [6,6,4]
theorem aFI:aD Go.Proofs.Tryz.prog (fun _=>true) aA1 219=true:=by decide+kernel
noncomputable def aNG:aP:=cF Tryz.f220 [42,42,0x10002a,42,42,106,106,0x2000000006a,0x2000000000000006a,106,0x800000000000000006a,104,42,106,0]
theorem aFJ:aD Go.Proofs.Tryz.prog (fun _=>true) aNG 220=true:=by decide+kernel
noncomputable def aNH:aP:=cF Tryz.f221 [3,16]
theorem aFK:aD Go.Proofs.Tryz.prog (fun _=>true) aNH 221=true:=by decide+kernel
noncomputable def aNI:aP:=cF Tryz.f222 [6,8]
theorem aFL:aD Go.Proofs.Tryz.prog (fun _=>true) aNI 222=true:=by decide+kernel
noncomputable def aNJ:aP:=cF Tryz.f223 [14,46,4142,28,524302,28,206,0x2000000ce,28,460,396,396,28]
theorem aFM:aD Go.Proofs.Tryz.prog (fun _=>true) aNJ 223=true:=by decide+kernel
noncomputable def aNK:aP:=cF Tryz.f224 [54,182,950,0x80003b6,112,1458,3506,7602,7346,0x2000000000014b2,1200,112]
theorem aFN:aD Go.Proofs.Tryz.prog (fun _=>true) aNK 224=true:=by decide+kernel
noncomputable def aNL:aP:=cF Tryz.f225 [6,8]
theorem aFO:aD Go.Proofs.Tryz.prog (fun _=>true) aNL 225=true:=by decide+kernel
noncomputable def aNM:aP:=cF Tryz.f226 [28,60,0x200030,48,16]
theorem aFP:aD Go.Proofs.Tryz.prog (fun _=>true) aNM 226=true:=by decide+kernel
noncomputable def aNN:aP:=cF Tryz.f237 [6,14,6156,6156,14348,6188,6380,6572,0x200019ac,6572,0x10000019ac,6540,7948,6156,6156,4]
theorem aFQ:aD Go.Proofs.Tryz.prog (fun _=>true) aNN 237=true:=by decide+kernel
noncomputable def aNO:aP:=cF Tryz.f238 [78,0x100004c,192,328,0x200000140,320,192]
theorem aFR:aD Go.Proofs.Tryz.prog (fun _=>true) aNO 238=true:=by decide+kernel
noncomputable def aNP:aP:=cG Tryz.f247 md [22,54,118,118,16502,0x1000076,118,118,16] [] [(0,[(5,some 2003)])]
theorem aFS:aD Go.Proofs.Tryz.prog (fun _=>true) aNP 247=true:=by decide+kernel
noncomputable def aNQ:aP:=cF Tryz.f248 [6,38,38,1062,0x100026,16,38,16]
theorem aFT:aD Go.Proofs.Tryz.prog (fun _=>true) aNQ 248=true:=by decide+kernel
noncomputable def aNR:aP:=cF Tryz.f249 [28,56,248,0x4000f8,248,248,248,240,0x100000000070,48,16]
theorem aFU:aD Go.Proofs.Tryz.prog (fun _=>true) aNR 249=true:=by decide+kernel
noncomputable def aNS:aP:=cF Tryz.f250 [120,240,480,448,192,64]
theorem aFV:aD Go.Proofs.Tryz.prog (fun _=>true) aNS 250=true:=by decide+kernel
noncomputable def aNT:aP:=cF Tryz.f251 [2,10,4]
theorem aFW:aD Go.Proofs.Tryz.prog (fun _=>true) aNT 251=true:=by decide+kernel
noncomputable def aNU:aP:=cF Tryz.f252 [220,468,2004,1492,1472,1472,1472,192]
theorem aFX:aD Go.Proofs.Tryz.prog (fun _=>true) aNU 252=true:=by decide+kernel
noncomputable def aNV:aP:=cF Tryz.f253 [28,32796,112,524316,112,0x2000001c,112,156,148,148,112]
theorem aFY:aD Go.Proofs.Tryz.prog (fun _=>true) aNV 253=true:=by decide+kernel
noncomputable def aNW:aP:=cF Tryz.f254 [6,38,38,1062,0x100026,16,38,16]
theorem aFZ:aD Go.Proofs.Tryz.prog (fun _=>true) aNW 254=true:=by decide+kernel
noncomputable def aNX:aP:=cG Tryz.f255 md [5,13,29,29,1053,29,29,4] [] [(0,[(3,some 5001)])]
theorem aF0:aD Go.Proofs.Tryz.prog (fun _=>true) aNX 255=true:=by decide+kernel
noncomputable def aNY:aP:=cF Tryz.f257 [19,275,48,83,48]
theorem aF1:aD Go.Proofs.Tryz.prog (fun _=>true) aNY 257=true:=by decide+kernel
noncomputable def aF2:aP:=cF Tryz.f258 [3,16]
theorem aF3:aD Go.Proofs.Tryz.prog (fun _=>true) aF2 258=true:=by decide+kernel
noncomputable def aF4:aP:=cF Tryz.f259 [7,131077,16,0,16]
theorem aF5:aD Go.Proofs.Tryz.prog (fun _=>true) aF4 259=true:=by decide+kernel
noncomputable def aNZ:aP:=cF Tryz.f260 [3,16]
theorem aF6:aD Go.Proofs.Tryz.prog (fun _=>true) aNZ 260=true:=by decide+kernel
noncomputable def aN0:aP:=cF Tryz.f261 [6,70,4166,48,384,0x400080,48,48]
theorem aF7:aD Go.Proofs.Tryz.prog (fun _=>true) aN0 261=true:=by decide+kernel
noncomputable def aN1:aP:=cF Tryz.f262 [7,7,65543,64,135,129,1,64]
theorem aF8:aD Go.Proofs.Tryz.prog (fun _=>true) aN1 262=true:=by decide+kernel
noncomputable def aN2:aP:=cF Tryz.f264 [12,76,1100,48,48]
theorem aF9:aD Go.Proofs.Tryz.prog (fun _=>true) aN2 264=true:=by decide+kernel
noncomputable def aN3:aP:=cF Tryz.f265 [42,0]
theorem aGa:aD Go.Proofs.Tryz.prog (fun _=>true) aN3 265=true:=by decide+kernel
noncomputable def aN4:aP:=cF Tryz.f266 [3,387,387,899,419,65955,16,387,16]
theorem aGb:aD Go.Proofs.Tryz.prog (fun _=>true) aN4 266=true:=by decide+kernel
noncomputable def aN5:aP:=cF Tryz.f267 [1,17,12]
theorem aGc:aD Go.Proofs.Tryz.prog (fun _=>true) aN5 267=true:=by decide+kernel
noncomputable def aCx:aP:=cF Tryz.f268 [6,4]
theorem aGd:aD Go.Proofs.Tryz.prog (fun _=>true) aCx 268=true:=by decide+kernel
noncomputable def aN6:aP:=cF Tryz.f269 [28,220,65756,48,0x10001c,48,284,272,48]
theorem aGe:aD Go.Proofs.Tryz.prog (fun _=>true) aN6 269=true:=by decide+kernel
noncomputable def aN7:aP:=cF Tryz.f279 [14,14,0]
theorem aGf:aD Go.Proofs.Tryz.prog (fun _=>true) aN7 279=true:=by decide+kernel
noncomputable def aN8:aP:=cF Tryz.f280 [28,56,56,48,16]
theorem aGg:aD Go.Proofs.Tryz.prog (fun _=>true) aN8 280=true:=by decide+kernel
noncomputable def aN9:aP:=cF Tryz.f281 [6,6,22,4118,0x100000016,22,0x400000000016,20,6]
theorem aGh:aD Go.Proofs.Tryz.prog (fun _=>true) aN9 281=true:=by decide+kernel
noncomputable def aOa:aP:=cF Tryz.f282 [6,6,0x200006,6,6,16]
theorem aGi:aD Go.Proofs.Tryz.prog (fun _=>true) aOa 282=true:=by decide+kernel
noncomputable def aOb:aP:=cF Tryz.f283 [14,28,60,60,60,60,12]
theorem aGj:aD Go.Proofs.Tryz.prog (fun _=>true) aOb 283=true:=by decide+kernel
noncomputable def aOc:aP:=cG Tryz.f284 md [5,13,28,28,8220,28,28,4] [] [(0,[(3,some 3001)])]
theorem aGk:aD Go.Proofs.Tryz.prog (fun _=>true) aOc 284=true:=by decide+kernel
noncomputable def aOd:aP:=cF Tryz.f285 [113,0x2000071,192,0x8000070,192,192]
theorem aGl:aD Go.Proofs.Tryz.prog (fun _=>true) aOd 285=true:=by decide+kernel
noncomputable def aGm:aP:=cF Tryz.f286 [3,387,387,899,419,65955,16,387,16]
theorem aGn:aD Go.Proofs.Tryz.prog (fun _=>true) aGm 286=true:=by decide+kernel
noncomputable def aOe:aP:=cF Tryz.f287 [3,387,387,899,419,65955,16,387,16]
theorem aGo:aD Go.Proofs.Tryz.prog (fun _=>true) aOe 287=true:=by decide+kernel
noncomputable def aOf:aP:=cF Tryz.f288 [7,263,1799,1799,132871,3847,0x80000f07,1799,1799,192]
theorem aGp:aD Go.Proofs.Tryz.prog (fun _=>true) aOf 288=true:=by decide+kernel
noncomputable def aOg:aP:=cF Tryz.f289 [6,16]
theorem aGq:aD Go.Proofs.Tryz.prog (fun _=>true) aOg 289=true:=by decide+kernel
noncomputable def aOh:aP:=cF Tryz.f291 [3,16]
theorem aGr:aD Go.Proofs.Tryz.prog (fun _=>true) aOh 291=true:=by decide+kernel
end Go.Proofs.YtfejhjllooomlaaGreat
