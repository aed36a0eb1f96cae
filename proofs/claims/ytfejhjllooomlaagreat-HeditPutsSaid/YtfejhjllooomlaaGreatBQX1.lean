/- The seat's functions as the logical machine runs them (reckoned), and the look at each of them. Printed by a program. -/
import Derived.Test.YtfejhjllooomlaaGreatBVm2
import Derived.Test.YtfejhjllooomlaaGreatProg
set_option maxRecDepth 100000
namespace Go.Proofs.YtfejhjllooomlaaGreat
open Go.Vm
abbrev md:FuncId->CM:=aRI [31,55,77,82,86,115,136,137,195,196] [78,90,219,258,268,286] [212,220,262,265,279,281,282]
abbrev mdX (l:List FuncId) (f:FuncId):CM:=bif has l f then .pur else md f
noncomputable abbrev cF (fn:Go.Func) (ks:List Nat):aQ:=aPi Go.Proofs.Tryz.prog fn ⟨md,ks,[],[],false⟩
noncomputable abbrev cG (fn:Go.Func) (m:FuncId->CM) (ks:List Nat) (a:List (Nat×List (Nat×Nat))) (b:List (Nat×List (Nat×Option Nat))):aQ:=aPi Go.Proofs.Tryz.prog fn ⟨m,ks,a,b,false⟩
noncomputable def x6:aQ:=cF Tryz.f6 [56,131128,64,184,952,4008,16296,65416,64]
theorem aPq:aF Go.Proofs.Tryz.prog (fun _=>true) x6 6=true:=by decide+kernel
noncomputable def x11:aQ:=cF Tryz.f11 [2,4]
theorem aJ8:aF Go.Proofs.Tryz.prog (fun _=>true) x11 11=true:=by decide+kernel
noncomputable def x13:aQ:=cF Tryz.f13 [2,524290,4,10,10,0x100000a,0x100000000a,4,26,26,0x800000001a,0x1000000000001a,4,26,10,0x800000000000000,4,4]
theorem aJ9:aF Go.Proofs.Tryz.prog (fun _=>true) x13 13=true:=by decide+kernel
noncomputable def x15:aQ:=cF Tryz.f15 [12,96,0x200060,0x4000000,16,16,0x20000060,16,16]
theorem aKa:aF Go.Proofs.Tryz.prog (fun _=>true) x15 15=true:=by decide+kernel
noncomputable def x17:aQ:=cF Tryz.f17 [12,16]
theorem aKb:aF Go.Proofs.Tryz.prog (fun _=>true) x17 17=true:=by decide+kernel
noncomputable def x19:aQ:=cF Tryz.f19 [2,258,4,10,10,8202,0x40000a,4,10,18,18,0x8000012,0x80000000012,4,18,4]
theorem aKc:aF Go.Proofs.Tryz.prog (fun _=>true) x19 19=true:=by decide+kernel
noncomputable def x21:aQ:=cF Tryz.f21 [12,4108,16,44,44,131116,0x4000002c,16,44,16]
theorem aKd:aF Go.Proofs.Tryz.prog (fun _=>true) x21 21=true:=by decide+kernel
noncomputable def x22:aQ:=cF Tryz.f22 [60,256]
theorem aKe:aF Go.Proofs.Tryz.prog (fun _=>true) x22 22=true:=by decide+kernel
noncomputable def x26:aQ:=cF Tryz.f26 [2,0x100000,4,4]
theorem aKf:aF Go.Proofs.Tryz.prog (fun _=>true) x26 26=true:=by decide+kernel
noncomputable def x29:aQ:=cF Tryz.f29 [9,41,41,553,131113,16,41,16]
theorem aKg:aF Go.Proofs.Tryz.prog (fun _=>true) x29 29=true:=by decide+kernel
noncomputable def x30:aQ:=cF Tryz.f30 [56,64]
theorem aKh:aF Go.Proofs.Tryz.prog (fun _=>true) x30 30=true:=by decide+kernel
noncomputable def x31:aQ:=cF Tryz.f31 [6,4]
theorem aKi:aF Go.Proofs.Tryz.prog (fun _=>true) x31 31=true:=by decide+kernel
noncomputable def x32:aQ:=cF Tryz.f32 [28,92,32860,48,412,0x800019c,48,660,1684,660,48]
theorem aKj:aF Go.Proofs.Tryz.prog (fun _=>true) x32 32=true:=by decide+kernel
noncomputable def x33:aQ:=cF Tryz.f33 [28,2076,48,220,0x10000dc,48,340,48]
theorem aKk:aF Go.Proofs.Tryz.prog (fun _=>true) x33 33=true:=by decide+kernel
noncomputable def x34:aQ:=cF Tryz.f34 [28,92,32860,48,412,0x800019c,48,668,3740,660,48]
theorem aKl:aF Go.Proofs.Tryz.prog (fun _=>true) x34 34=true:=by decide+kernel
noncomputable def x35:aQ:=cF Tryz.f35 [28,1052,48,220,0x8000dc,48,48]
theorem aKm:aF Go.Proofs.Tryz.prog (fun _=>true) x35 35=true:=by decide+kernel
noncomputable def x40:aQ:=cF Tryz.f40 [6,38,38,1062,0x100026,16,38,16]
theorem aKn:aF Go.Proofs.Tryz.prog (fun _=>true) x40 40=true:=by decide+kernel
noncomputable def x41:aQ:=cF Tryz.f41 [28,92,4188,48,131100,48,156,0x100009c,48,408,272,48]
theorem aKo:aF Go.Proofs.Tryz.prog (fun _=>true) x41 41=true:=by decide+kernel
noncomputable def x43:aQ:=cF Tryz.f43 [3,35,35,547,131107,16,35,16]
theorem aKp:aF Go.Proofs.Tryz.prog (fun _=>true) x43 43=true:=by decide+kernel
noncomputable def x44:aQ:=cF Tryz.f44 [2,0x40000000,4,4]
theorem aKq:aF Go.Proofs.Tryz.prog (fun _=>true) x44 44=true:=by decide+kernel
noncomputable def x45:aQ:=cF Tryz.f45 [28,92,8284,48,156,524444,48,796,0x2000011c,48,0x40000011c,48,48]
theorem aKr:aF Go.Proofs.Tryz.prog (fun _=>true) x45 45=true:=by decide+kernel
noncomputable def x48:aQ:=cF Tryz.f48 [28,92,16476,48,156,0x10009c,48,796,0x8000031c,48,1304,1040,48]
theorem aKs:aF Go.Proofs.Tryz.prog (fun _=>true) x48 48=true:=by decide+kernel
noncomputable def x51:aQ:=cF Tryz.f51 [3,1027,16,35,35,16419,0x2000023,16,35,16]
theorem aKt:aF Go.Proofs.Tryz.prog (fun _=>true) x51 51=true:=by decide+kernel
noncomputable def x52:aQ:=cF Tryz.f52 [2,4]
theorem aKu:aF Go.Proofs.Tryz.prog (fun _=>true) x52 52=true:=by decide+kernel
noncomputable def x53:aQ:=cF Tryz.f53 [2,0x100000000000002,4,10,26,26,0x400000000000001a,58,250,0x40000000000000000007a,0x400000000000000000000007a,4,890,0x2000000000000000000000000000001a,4,26,26,0x1000000000000000000000000000000000,4,4]
theorem aKv:aF Go.Proofs.Tryz.prog (fun _=>true) x53 53=true:=by decide+kernel
noncomputable def x54:aQ:=cF Tryz.f54 [6,4102,16,38,38,65574,0x4000000026,16,38,16]
theorem aKw:aF Go.Proofs.Tryz.prog (fun _=>true) x54 54=true:=by decide+kernel
noncomputable def x55:aQ:=cG Tryz.f55 md [1,9,25,25,281,25,25,4] [(0,[(3,2)])] []
theorem aKx:aF Go.Proofs.Tryz.prog (fun _=>true) x55 55=true:=by decide+kernel
noncomputable def x56:aQ:=cF Tryz.f56 [19,51,48,16]
theorem aKy:aF Go.Proofs.Tryz.prog (fun _=>true) x56 56=true:=by decide+kernel
noncomputable def x57:aQ:=cF Tryz.f57 [2,1026,4,4096,4,4]
theorem aKz:aF Go.Proofs.Tryz.prog (fun _=>true) x57 57=true:=by decide+kernel
noncomputable def x58:aQ:=cF Tryz.f58 [12,524,16384,16,16,524300,0x1000000,16,16,16]
theorem aKA:aF Go.Proofs.Tryz.prog (fun _=>true) x58 58=true:=by decide+kernel
noncomputable def x59:aQ:=cF Tryz.f59 [2,0x400002,4,0x1c000002,0x1c000002,0x3c000002,0x1c000012,0x201c000002,4,0x1c000002,34,0x2000000000022,4,0xe0000000000022,0xe0000000000022,0x1e0000000000022,0xe00000000000a2,0x800000e0000000000022,4,0xe0000000000022,4]
theorem aKB:aF Go.Proofs.Tryz.prog (fun _=>true) x59 59=true:=by decide+kernel
noncomputable def x60:aQ:=cF Tryz.f60 [2,0x100000,4,4]
theorem aKC:aF Go.Proofs.Tryz.prog (fun _=>true) x60 60=true:=by decide+kernel
noncomputable def x61:aQ:=cF Tryz.f61 [12,76,4172,48,0x10000c,48,132,0x8000000080,128,48]
theorem aKD:aF Go.Proofs.Tryz.prog (fun _=>true) x61 61=true:=by decide+kernel
noncomputable def x65:aQ:=cF Tryz.f65 [12,0x8000000000c,16,44,44,0x100000000002c,0x200000000000002c,16,44,16]
theorem aKE:aF Go.Proofs.Tryz.prog (fun _=>true) x65 65=true:=by decide+kernel
noncomputable def x68:aQ:=cF Tryz.f68 [92,229468,229468,491612,229980,0x203825c,229468,229468,92,0x1000000005c,1100,0x100000000044c,192,0x38000000000048,0x38000000000048,0x78000000000048,0x38000000001048,0x2038000000001048,0x38000000000448,0x400038000000000448,192,0x38000000000048,192]
theorem aKF:aF Go.Proofs.Tryz.prog (fun _=>true) x68 68=true:=by decide+kernel
noncomputable def x69:aQ:=cG Tryz.f69 md [1,9,25,25,281,25,25,4] [(0,[(3,2)])] []
theorem aKG:aF Go.Proofs.Tryz.prog (fun _=>true) x69 69=true:=by decide+kernel
noncomputable def x70:aQ:=cF Tryz.f70 [56,152,8344,64,0x100018,64,64]
theorem aKH:aF Go.Proofs.Tryz.prog (fun _=>true) x70 70=true:=by decide+kernel
noncomputable def x72:aQ:=cF Tryz.f72 [3,3,67,3,16]
theorem aKI:aF Go.Proofs.Tryz.prog (fun _=>true) x72 72=true:=by decide+kernel
noncomputable def x73:aQ:=cF Tryz.f73 [1,17,4,4]
theorem aKJ:aF Go.Proofs.Tryz.prog (fun _=>true) x73 73=true:=by decide+kernel
noncomputable def x77:aQ:=cF Tryz.f77 [6,4]
theorem aKK:aF Go.Proofs.Tryz.prog (fun _=>true) x77 77=true:=by decide+kernel
noncomputable def x78:aQ:=cF Tryz.f78 [56,288,352,192,192]
theorem aKL:aF Go.Proofs.Tryz.prog (fun _=>true) x78 78=true:=by decide+kernel
noncomputable def x79:aQ:=cF Tryz.f79 [92,836,525124,192,192]
theorem aKM:aF Go.Proofs.Tryz.prog (fun _=>true) x79 79=true:=by decide+kernel
noncomputable def x80:aQ:=cG Tryz.f80 md [28,92,8284,48,262172,48,0x100001c,48,0x2000001c,48,156,412,924,924,0x80000039c,0x400000000039c,668,924,924,924,0x100000000000000098,144,48] [] [(0,[(7,some 1003)])]
theorem aKN:aF Go.Proofs.Tryz.prog (fun _=>true) x80 80=true:=by decide+kernel
noncomputable def x81:aQ:=cF Tryz.f81 [92,836,525124,192,192]
theorem aKO:aF Go.Proofs.Tryz.prog (fun _=>true) x81 81=true:=by decide+kernel
noncomputable def x82:aQ:=cF Tryz.f82 [60,568,568,0x20000238,568,568,256]
theorem aKP:aF Go.Proofs.Tryz.prog (fun _=>true) x82 82=true:=by decide+kernel
noncomputable def x83:aQ:=cF Tryz.f83 [3,387,387,899,419,65955,16,387,16]
theorem aKQ:aF Go.Proofs.Tryz.prog (fun _=>true) x83 83=true:=by decide+kernel
noncomputable def x84:aQ:=cF Tryz.f84 [60,572,1584,256]
theorem aKR:aF Go.Proofs.Tryz.prog (fun _=>true) x84 84=true:=by decide+kernel
noncomputable def x86:aQ:=cF Tryz.f86 [6,4]
theorem aKS:aF Go.Proofs.Tryz.prog (fun _=>true) x86 86=true:=by decide+kernel
noncomputable def x87:aQ:=cF Tryz.f87 [2,2050,4,57346,57346,122882,57362,57378,0x40e022,4,57346,0x1c000002,0x1c000002,0x3c000002,0x1c0000c2,0x40001c000002,4,0x1c000002,4]
theorem aKT:aF Go.Proofs.Tryz.prog (fun _=>true) x87 87=true:=by decide+kernel
noncomputable def x88:aQ:=cF Tryz.f88 [2,10,0x800000,4,4]
theorem aKU:aF Go.Proofs.Tryz.prog (fun _=>true) x88 88=true:=by decide+kernel
noncomputable def x89:aQ:=cF Tryz.f89 [6,48]
theorem aKV:aF Go.Proofs.Tryz.prog (fun _=>true) x89 89=true:=by decide+kernel
noncomputable def x92:aQ:=cF Tryz.f92 [6,70,4166,48,384,0x200080,48,48]
theorem aKW:aF Go.Proofs.Tryz.prog (fun _=>true) x92 92=true:=by decide+kernel
noncomputable def x94:aQ:=cF Tryz.f94 [2,4]
theorem aKX:aF Go.Proofs.Tryz.prog (fun _=>true) x94 94=true:=by decide+kernel
noncomputable def x95:aQ:=cF Tryz.f95 [2,4]
theorem aKY:aF Go.Proofs.Tryz.prog (fun _=>true) x95 95=true:=by decide+kernel
noncomputable def x96:aQ:=cF Tryz.f96 [2,524290,4,10,10,0x100000a,26,0x800000000000001a,4,58,58,0x4000000000000003a,0x2000000000000000003a,4,58,10,4]
theorem aKZ:aF Go.Proofs.Tryz.prog (fun _=>true) x96 96=true:=by decide+kernel
noncomputable def x97:aQ:=cF Tryz.f97 [12,44,44,1068,0x40000002c,16,44,16]
theorem aK0:aF Go.Proofs.Tryz.prog (fun _=>true) x97 97=true:=by decide+kernel
noncomputable def x98:aQ:=cF Tryz.f98 [2,32770,4,10,10,0x10000a,26,0x2000000001a,4,58,58,0x10000000003a,0x8000000000003a,4,58,10,66,66,0x1000000000000042,0x8000000000000000042,4,66,4]
theorem aK1:aF Go.Proofs.Tryz.prog (fun _=>true) x98 98=true:=by decide+kernel
noncomputable def x99:aQ:=cF Tryz.f99 [120,192]
theorem aK2:aF Go.Proofs.Tryz.prog (fun _=>true) x99 99=true:=by decide+kernel
noncomputable def aK3:aQ:=cF Tryz.f100 [28,284,48,16412,48,48]
theorem aDp:aF Go.Proofs.Tryz.prog (fun _=>true) aK3 100=true:=by decide+kernel
noncomputable def aK4:aQ:=cF Tryz.f101 [12,44,44,1068,0x10002c,16,44,16]
theorem aDq:aF Go.Proofs.Tryz.prog (fun _=>true) aK4 101=true:=by decide+kernel
noncomputable def aK5:aQ:=cF Tryz.f102 [19,496,1008,1776,3760,16]
theorem aDr:aF Go.Proofs.Tryz.prog (fun _=>true) aK5 102=true:=by decide+kernel
noncomputable def aK6:aQ:=cF Tryz.f103 [2,0x7000002,0x7000002,0xf000002,0x7000012,0x87000002,4,0x7000002,0x800000000002,4,34,0x70000000000022,0x70000000000022,0xf0000000000022,0x700000000000a2,0x700000000007a2,0x4000700000000003a2,4,0x10000700000000001a2,0x10000000700000000001a2,4,0x700000000009a2,0x40000000000000000070000000000022,4,0x70000000000022,0x70000000000022,0x1000000000000000000000000000000000,4,4]
theorem aDs:aF Go.Proofs.Tryz.prog (fun _=>true) aK6 103=true:=by decide+kernel
noncomputable def aK7:aQ:=cF Tryz.f104 [3,16]
theorem aDt:aF Go.Proofs.Tryz.prog (fun _=>true) aK7 104=true:=by decide+kernel
noncomputable def aK8:aQ:=cF Tryz.f105 [9,16]
theorem aDu:aF Go.Proofs.Tryz.prog (fun _=>true) aK8 105=true:=by decide+kernel
noncomputable def aK9:aQ:=cF Tryz.f106 [60,568,2592,8192,256]
theorem aDv:aF Go.Proofs.Tryz.prog (fun _=>true) aK9 106=true:=by decide+kernel
noncomputable def aLa:aQ:=cF Tryz.f107 [3,3,67,3,16]
theorem aDw:aF Go.Proofs.Tryz.prog (fun _=>true) aLa 107=true:=by decide+kernel
noncomputable def aLb:aQ:=cF Tryz.f108 [1,17,4,4]
theorem aDx:aF Go.Proofs.Tryz.prog (fun _=>true) aLb 108=true:=by decide+kernel
noncomputable def aLc:aQ:=cF Tryz.f109 [12,16]
theorem aDy:aF Go.Proofs.Tryz.prog (fun _=>true) aLc 109=true:=by decide+kernel
noncomputable def aLd:aQ:=cF Tryz.f110 [3,35,99,2115,4096,16,16,8195,16,65539,16,524288,16,16]
theorem aDz:aF Go.Proofs.Tryz.prog (fun _=>true) aLd 110=true:=by decide+kernel
noncomputable def aLe:aQ:=cF Tryz.f111 [12,44,4140,16,16]
theorem aDA:aF Go.Proofs.Tryz.prog (fun _=>true) aLe 111=true:=by decide+kernel
noncomputable def aLf:aQ:=cF Tryz.f112 [19,115,16]
theorem aDB:aF Go.Proofs.Tryz.prog (fun _=>true) aLf 112=true:=by decide+kernel
noncomputable def aLg:aQ:=cF Tryz.f115 [6,6,6,14,6,4]
theorem aDC:aF Go.Proofs.Tryz.prog (fun _=>true) aLg 115=true:=by decide+kernel
noncomputable def aLh:aQ:=cF Tryz.f116 [12,524300,16,44,44,0x100002c,0x200000002c,16,44,16]
theorem aDD:aF Go.Proofs.Tryz.prog (fun _=>true) aLh 116=true:=by decide+kernel
noncomputable def aLi:aQ:=cF Tryz.f117 [12,0x1000000c,16,44,44,0x20000002c,0x40000000002c,16,44,16]
theorem aDE:aF Go.Proofs.Tryz.prog (fun _=>true) aLi 117=true:=by decide+kernel
noncomputable def aLj:aQ:=cF Tryz.f119 [22,86,8278,48,656,48]
theorem aDF:aF Go.Proofs.Tryz.prog (fun _=>true) aLj 119=true:=by decide+kernel
noncomputable def aLk:aQ:=cF Tryz.f120 [3,1027,16,12291,12291,28675,12323,0x1003003,16,12291,16]
theorem aDG:aF Go.Proofs.Tryz.prog (fun _=>true) aLk 120=true:=by decide+kernel
noncomputable def aLl:aQ:=cG Tryz.f121 (mdX [115]) [28,92,0x40005c,48,156,0x1000009c,48,0xe0000001c,0xe0000001c,0x1e0000001c,0xe0000021c,0x40000e0000001c,48,0xe0000001c,1052,1052,0x38000000000000041c,0x38000000000000041c,0x78000000000000041c,0x38000000000000141c,0x38000000000000f41c,0x38000000000003f41c,0x8000038000000000003f41c,0x38000000000001841c,0x38000000000000841c,0x100000000000038000000000003b41c,0x38000000000004341c,0x38000000000004341c,0x38000000000004841c,0x38000000000000841c,0x80000000000000000038000000000001841c,0x38000000000000841c,0x1000000000000000000000038000000000000841c,48,0x38000000000000041c,48] [] [(1,[(10,some 11003)])]
theorem aDH:aF Go.Proofs.Tryz.prog (fun _=>true) aLl 121=true:=by decide+kernel
noncomputable def aLm:aQ:=cF Tryz.f122 [3,16]
theorem aDI:aF Go.Proofs.Tryz.prog (fun _=>true) aLm 122=true:=by decide+kernel
noncomputable def aLn:aQ:=cF Tryz.f123 [6,8]
theorem aDJ:aF Go.Proofs.Tryz.prog (fun _=>true) aLn 123=true:=by decide+kernel
noncomputable def aLo:aQ:=cF Tryz.f124 [28,156,412,0x20019c,112,3740,0x2000000e9c,112,0x800000000000e9c,112,0x40000000000000e9c,112,5788,5276,31892,0x10000000000000000007c94,112,0x800000000000000000003494,234640,0x400000000000000000000039490,112,5136,112]
theorem aDK:aF Go.Proofs.Tryz.prog (fun _=>true) aLo 124=true:=by decide+kernel
noncomputable def aLp:aQ:=cF Tryz.f125 [56,64]
theorem aDL:aF Go.Proofs.Tryz.prog (fun _=>true) aLp 125=true:=by decide+kernel
noncomputable def aLq:aQ:=cF Tryz.f128 [56,312,16696,192,192]
theorem aDM:aF Go.Proofs.Tryz.prog (fun _=>true) aLq 128=true:=by decide+kernel
noncomputable def aLr:aQ:=cF Tryz.f131 [28,92,4188,48,524316,48,48]
theorem aDN:aF Go.Proofs.Tryz.prog (fun _=>true) aLr 131=true:=by decide+kernel
noncomputable def aLs:aQ:=cF Tryz.f136 [6,4]
theorem aDO:aF Go.Proofs.Tryz.prog (fun _=>true) aLs 136=true:=by decide+kernel
noncomputable def aLt:aQ:=cF Tryz.f137 [6,4]
theorem aDP:aF Go.Proofs.Tryz.prog (fun _=>true) aLt 137=true:=by decide+kernel
noncomputable def aBB:aQ:=cF Tryz.f138 [31,286,1296,4096,128]
theorem aDQ:aF Go.Proofs.Tryz.prog (fun _=>true) aBB 138=true:=by decide+kernel
noncomputable def aLu:aQ:=cF Tryz.f139 [22,212,32980,48,48]
theorem aDR:aF Go.Proofs.Tryz.prog (fun _=>true) aLu 139=true:=by decide+kernel
noncomputable def aBC:aQ:=cF Tryz.f140 [7,7,16391,7,7,16]
theorem aDS:aF Go.Proofs.Tryz.prog (fun _=>true) aBC 140=true:=by decide+kernel
noncomputable def aBD:aQ:=cF Tryz.f141 [7,7,39,103,103,0x200067,0x8000067,103,103,0x80000027,16,38,7]
theorem aDT:aF Go.Proofs.Tryz.prog (fun _=>true) aBD 141=true:=by decide+kernel
noncomputable def aLv:aQ:=cF Tryz.f142 [92,348,0x80015c,192,604,0x2000025c,192,0x70000005c,0x70000005c,0xf0000005c,0x70000085c,0x400000070000005c,192,0x70000005c,0xe000000000000005c,0xe000000000000005c,0x1e000000000000005c,0xe000000000000305c,0x100e000000000000005c,192,0xe000000000000005c,0x38000000000000000005c,0x38000000000000000005c,0x78000000000000000005c,0x38000000000000000805c,0x38000000000000002805c,0x3800000000000000a005c,0x10000038000000000000000005c,192,0x38000000000000000005c,192]
theorem aDU:aF Go.Proofs.Tryz.prog (fun _=>true) aLv 142=true:=by decide+kernel
noncomputable def aLw:aQ:=cG Tryz.f143 md [1,9,3081,3081,7177,3097,3081,3081,4] [(0,[(3,2)])] []
theorem aDV:aF Go.Proofs.Tryz.prog (fun _=>true) aLw 143=true:=by decide+kernel
noncomputable def aLx:aQ:=cG Tryz.f144 (mdX [77]) [92,348,860,860,0x80035c,0x80000035c,860,860,0x2000000000154,3396,0x200000000000d44,192,324,4420,4420,0x10000000000001144,0x2000000000000001144,45380,0x200000000000000000b144,192,4420,4420,192] [] []
theorem aDW:aF Go.Proofs.Tryz.prog (fun _=>true) aLx 144=true:=by decide+kernel
noncomputable def aLy:aQ:=cF Tryz.f145 [60,568,568,524856,1592,0x20000000638,1592,0x80000000000638,256,1584,568,256]
theorem aDX:aF Go.Proofs.Tryz.prog (fun _=>true) aLy 145=true:=by decide+kernel
noncomputable def aLz:aQ:=cF Tryz.f148 [1,4]
theorem aDY:aF Go.Proofs.Tryz.prog (fun _=>true) aLz 148=true:=by decide+kernel
noncomputable def aLA:aQ:=cF Tryz.f149 [7,263,1799,1799,132871,3847,0x80000f07,1799,1799,192]
theorem aDZ:aF Go.Proofs.Tryz.prog (fun _=>true) aLA 149=true:=by decide+kernel
noncomputable def aLB:aQ:=cF Tryz.f150 [6,16]
theorem aD0:aF Go.Proofs.Tryz.prog (fun _=>true) aLB 150=true:=by decide+kernel
noncomputable def aLC:aQ:=cF Tryz.f151 [3,35,99,2115,4096,16,16,8195,16,65539,16,524288,16,16]
theorem aD1:aF Go.Proofs.Tryz.prog (fun _=>true) aLC 151=true:=by decide+kernel
noncomputable def aLD:aQ:=cF Tryz.f154 [2,4]
theorem aD2:aF Go.Proofs.Tryz.prog (fun _=>true) aLD 154=true:=by decide+kernel
noncomputable def aLE:aQ:=cF Tryz.f155 [2,4]
theorem aD3:aF Go.Proofs.Tryz.prog (fun _=>true) aLE 155=true:=by decide+kernel
noncomputable def aLF:aQ:=cF Tryz.f156 [2,10,0x2000000a,4,26,58,58,0x100000003a,0x800000000000003a,4,58,58,90,90,0x200000000000000005a,0x10000000000000000000000000005a,4,90,4]
theorem aD4:aF Go.Proofs.Tryz.prog (fun _=>true) aLF 156=true:=by decide+kernel
noncomputable def aLG:aQ:=cF Tryz.f157 [2,10,0x400000a,4,26,26,0x2000001a,0x400000001a,0x10000000001a,4,58,0x20000000000000000001a,4,26,4]
theorem aD5:aF Go.Proofs.Tryz.prog (fun _=>true) aLG 157=true:=by decide+kernel
noncomputable def aLH:aQ:=cF Tryz.f158 [12,44,16]
theorem aD6:aF Go.Proofs.Tryz.prog (fun _=>true) aLH 158=true:=by decide+kernel
noncomputable def aLI:aQ:=cF Tryz.f159 [120,2168,192,131160,192,192]
theorem aD7:aF Go.Proofs.Tryz.prog (fun _=>true) aLI 159=true:=by decide+kernel
noncomputable def aLJ:aQ:=cF Tryz.f160 [12,16]
theorem aD8:aF Go.Proofs.Tryz.prog (fun _=>true) aLJ 160=true:=by decide+kernel
noncomputable def aLK:aQ:=cF Tryz.f161 [2,0x100002,4,26,0x380001a,0x380001a,0x780001a,0x380005a,0x800000380004a,4,0x380001a,0x380001a,4]
theorem aD9:aF Go.Proofs.Tryz.prog (fun _=>true) aLK 161=true:=by decide+kernel
noncomputable def aLL:aQ:=cF Tryz.f162 [2,0x1000000002,4,0x1c000000002,0x1c000000002,0x3c000000002,0x1c00000001a,0x801c00000001a,0x2001c000000002,4,0x8000000001c000000002,4,0x1c000000002,34,0x3800000000000000000022,0x3800000000000000000022,0x7800000000000000000022,0x38000000000000000000e2,0x20000038000000000000000000e2,4,0x38000000000000000000e2,0x40000000003800000000000000000022,4,0x3800000000000000000022,4]
theorem aEa:aF Go.Proofs.Tryz.prog (fun _=>true) aLL 162=true:=by decide+kernel
noncomputable def aLM:aQ:=cF Tryz.f163 [120,448]
theorem aEb:aF Go.Proofs.Tryz.prog (fun _=>true) aLM 163=true:=by decide+kernel
noncomputable def aLN:aQ:=cF Tryz.f164 [9,393,393,905,425,65961,16,393,16]
theorem aEc:aF Go.Proofs.Tryz.prog (fun _=>true) aLN 164=true:=by decide+kernel
noncomputable def aLO:aQ:=cF Tryz.f165 [1,4]
theorem aEd:aF Go.Proofs.Tryz.prog (fun _=>true) aLO 165=true:=by decide+kernel
noncomputable def aLP:aQ:=cF Tryz.f166 [3,35,99,2115,4096,16,16,8195,16,65539,16,524288,16,16]
theorem aEe:aF Go.Proofs.Tryz.prog (fun _=>true) aLP 166=true:=by decide+kernel
noncomputable def aLQ:aQ:=cF Tryz.f167 [3,67,195,451,963,1987,2755,6851,12995,12931,19,48]
theorem aEf:aF Go.Proofs.Tryz.prog (fun _=>true) aLQ 167=true:=by decide+kernel
noncomputable def aLR:aQ:=cF Tryz.f168 [54,950,0x20003b6,112,1462,1334,7476,0x10000000d34,44336,0x8000000000ad30,112,1328,112]
theorem aEg:aF Go.Proofs.Tryz.prog (fun _=>true) aLR 168=true:=by decide+kernel
noncomputable def aLS:aQ:=cF Tryz.f174 [12,16]
theorem aEh:aF Go.Proofs.Tryz.prog (fun _=>true) aLS 174=true:=by decide+kernel
noncomputable def aLT:aQ:=cF Tryz.f175 [3,1027,16,35,35,16419,0x2000023,16,35,16]
theorem aEi:aF Go.Proofs.Tryz.prog (fun _=>true) aLT 175=true:=by decide+kernel
noncomputable def aLU:aQ:=cF Tryz.f178 [22,116,32820,16,16]
theorem aEj:aF Go.Proofs.Tryz.prog (fun _=>true) aLU 178=true:=by decide+kernel
noncomputable def aLV:aQ:=cF Tryz.f179 [3,48]
theorem aEk:aF Go.Proofs.Tryz.prog (fun _=>true) aLV 179=true:=by decide+kernel
noncomputable def aLW:aQ:=cF Tryz.f180 [120,376,524664,192,1640,0x20000668,192,2656,6752,6720,2112,192]
theorem aEl:aF Go.Proofs.Tryz.prog (fun _=>true) aLW 180=true:=by decide+kernel
noncomputable def aLX:aQ:=cF Tryz.f181 [248,760,0x2002f8,448,0x400000f8,448,0x10000000f8,448,7416,0x800000001cf8,448,11504,27840,26816,10432,448]
theorem aEm:aF Go.Proofs.Tryz.prog (fun _=>true) aLX 181=true:=by decide+kernel
noncomputable def aLY:aQ:=cF Tryz.f182 [60,436,65972,112,112]
theorem aEn:aF Go.Proofs.Tryz.prog (fun _=>true) aLY 182=true:=by decide+kernel
noncomputable def aLZ:aQ:=cF Tryz.f183 [3,387,387,899,419,65955,16,387,16]
theorem aEo:aF Go.Proofs.Tryz.prog (fun _=>true) aLZ 183=true:=by decide+kernel
noncomputable def aL0:aQ:=cF Tryz.f184 [5,28]
theorem aEp:aF Go.Proofs.Tryz.prog (fun _=>true) aL0 184=true:=by decide+kernel
noncomputable def aL1:aQ:=cF Tryz.f185 [28,156,4252,112,131100,112,0x40001c,112,0x10000001c,112,276,112]
theorem aEq:aF Go.Proofs.Tryz.prog (fun _=>true) aL1 185=true:=by decide+kernel
noncomputable def aL2:aQ:=cF Tryz.f186 [28,4124,52,0x40000030,48,16,0x800000001c,84,80,16,152,144,16]
theorem aEr:aF Go.Proofs.Tryz.prog (fun _=>true) aL2 186=true:=by decide+kernel
noncomputable def aL3:aQ:=cF Tryz.f189 [56,152,65688,64,0x400000,64,64]
theorem aEs:aF Go.Proofs.Tryz.prog (fun _=>true) aL3 189=true:=by decide+kernel
noncomputable def aL4:aQ:=cF Tryz.f190 [56,152,0x10000098,0x80000000,64,64,64]
theorem aEt:aF Go.Proofs.Tryz.prog (fun _=>true) aL4 190=true:=by decide+kernel
noncomputable def aL5:aQ:=cF Tryz.f192 [19,275,48,83,48]
theorem aEu:aF Go.Proofs.Tryz.prog (fun _=>true) aL5 192=true:=by decide+kernel
noncomputable def aL6:aQ:=cF Tryz.f194 [1,9,456,456,968,488,16872,4,456,4]
theorem aEv:aF Go.Proofs.Tryz.prog (fun _=>true) aL6 194=true:=by decide+kernel
noncomputable def aL7:aQ:=cF Tryz.f195 [6,4]
theorem aEw:aF Go.Proofs.Tryz.prog (fun _=>true) aL7 195=true:=by decide+kernel
noncomputable def aL8:aQ:=cF Tryz.f196 [6,6,6,6,14,14,6,4]
theorem aEx:aF Go.Proofs.Tryz.prog (fun _=>true) aL8 196=true:=by decide+kernel
noncomputable def aL9:aQ:=cF Tryz.f197 [22,54,54,116,262260,116,48,16]
theorem aEy:aF Go.Proofs.Tryz.prog (fun _=>true) aL9 197=true:=by decide+kernel
noncomputable def aMa:aQ:=cG Tryz.f198 (mdX [77,86]) [28,92,92,92,220,220,0x20000dc,476,988,4060,0x8000000000fdc,4060,4060,0x40000000000000000fdc,4060,0x4000000000000000000005dc,0x80000000000000000000005dc,48,12764,8668,220,220,48] [] [(0,[(6,some 11003)])]
theorem aEz:aF Go.Proofs.Tryz.prog (fun _=>true) aMa 198=true:=by decide+kernel
noncomputable def aMb:aQ:=cF Tryz.f199 [28,924,0x100039c,112,1436,1308,7444,0x20000000d14,112,0x1000000000d14,112,25872,17680,1296,112]
theorem aEA:aF Go.Proofs.Tryz.prog (fun _=>true) aMb 199=true:=by decide+kernel
noncomputable def aMc:aQ:=cF Tryz.f203 [1,4]
theorem aEB:aF Go.Proofs.Tryz.prog (fun _=>true) aMc 203=true:=by decide+kernel
noncomputable def aMd:aQ:=cF Tryz.f205 [28,48,16]
theorem aEC:aF Go.Proofs.Tryz.prog (fun _=>true) aMd 205=true:=by decide+kernel
noncomputable def aMe:aQ:=cF Tryz.f206 [2,4]
theorem aED:aF Go.Proofs.Tryz.prog (fun _=>true) aMe 206=true:=by decide+kernel
noncomputable def aMf:aQ:=cF Tryz.f207 [2,10,0x80000a,4,26,50,0x800000002,4,0xe000000002,0xe000000002,0x1e000000002,0xe0000000c2,0x100000e000000002,4,0xe000000002,4]
theorem aEE:aF Go.Proofs.Tryz.prog (fun _=>true) aMf 207=true:=by decide+kernel
noncomputable def aMg:aQ:=cF Tryz.f208 [12,44,16]
theorem aEF:aF Go.Proofs.Tryz.prog (fun _=>true) aMg 208=true:=by decide+kernel
noncomputable def aMh:aQ:=cF Tryz.f209 [120,632,131704,448,0x1000078,448,0x40000058,448,3136,448]
theorem aEG:aF Go.Proofs.Tryz.prog (fun _=>true) aMh 209=true:=by decide+kernel
noncomputable def aMi:aQ:=cF Tryz.f210 [1,4]
theorem aEH:aF Go.Proofs.Tryz.prog (fun _=>true) aMi 210=true:=by decide+kernel
noncomputable def aMj:aQ:=cF Tryz.f211 [54,436,65972,112,112]
theorem aEI:aF Go.Proofs.Tryz.prog (fun _=>true) aMj 211=true:=by decide+kernel
noncomputable def aMk:aQ:=cF Tryz.f212 [7,7,65543,64,135,129,1,64]
theorem aEJ:aF Go.Proofs.Tryz.prog (fun _=>true) aMk 212=true:=by decide+kernel
noncomputable def aMl:aQ:=cF Tryz.f213 [3,1027,16,35,35,16419,0x2000023,16,35,16]
theorem aEK:aF Go.Proofs.Tryz.prog (fun _=>true) aMl 213=true:=by decide+kernel
noncomputable def aMm:aQ:=cF Tryz.f215 [6,16]
theorem aEL:aF Go.Proofs.Tryz.prog (fun _=>true) aMm 215=true:=by decide+kernel
noncomputable def aMn:aQ:=cF Tryz.f216 [7,263,1799,1799,132871,3847,0x80000f07,1799,1799,192]
theorem aEM:aF Go.Proofs.Tryz.prog (fun _=>true) aMn 216=true:=by decide+kernel
noncomputable def aMo:aQ:=cF Tryz.f217 [6,16]
theorem aEN:aF Go.Proofs.Tryz.prog (fun _=>true) aMo 217=true:=by decide+kernel
noncomputable def aMp:aQ:=cF Tryz.f218 [12,76,4172,48,396,0x400000c,48,48]
theorem aEO:aF Go.Proofs.Tryz.prog (fun _=>true) aMp 218=true:=by decide+kernel
noncomputable def aAa:aQ:=cF Tryz.f219 [6,6,4]
theorem aEP:aF Go.Proofs.Tryz.prog (fun _=>true) aAa 219=true:=by decide+kernel
noncomputable def aMq:aQ:=cF Tryz.f220 [42,42,0x10002a,42,42,106,106,0x2000000006a,0x2000000000000006a,106,0x800000000000000006a,104,42,106,0]
theorem aEQ:aF Go.Proofs.Tryz.prog (fun _=>true) aMq 220=true:=by decide+kernel
noncomputable def aMr:aQ:=cF Tryz.f221 [3,16]
theorem aER:aF Go.Proofs.Tryz.prog (fun _=>true) aMr 221=true:=by decide+kernel
noncomputable def aMs:aQ:=cF Tryz.f222 [6,8]
theorem aES:aF Go.Proofs.Tryz.prog (fun _=>true) aMs 222=true:=by decide+kernel
noncomputable def aMt:aQ:=cF Tryz.f223 [14,46,4142,28,524302,28,206,0x2000000ce,28,460,396,396,28]
theorem aET:aF Go.Proofs.Tryz.prog (fun _=>true) aMt 223=true:=by decide+kernel
noncomputable def aMu:aQ:=cF Tryz.f224 [54,182,950,0x80003b6,112,1458,3506,7602,7346,0x2000000000014b2,1200,112]
theorem aEU:aF Go.Proofs.Tryz.prog (fun _=>true) aMu 224=true:=by decide+kernel
noncomputable def aMv:aQ:=cF Tryz.f225 [6,8]
theorem aEV:aF Go.Proofs.Tryz.prog (fun _=>true) aMv 225=true:=by decide+kernel
noncomputable def aMw:aQ:=cF Tryz.f226 [28,60,0x200030,48,16]
theorem aEW:aF Go.Proofs.Tryz.prog (fun _=>true) aMw 226=true:=by decide+kernel
noncomputable def aMx:aQ:=cF Tryz.f237 [6,14,6156,6156,14348,6188,6380,6572,0x200019ac,6572,0x10000019ac,6540,7948,6156,6156,4]
theorem aEX:aF Go.Proofs.Tryz.prog (fun _=>true) aMx 237=true:=by decide+kernel
noncomputable def aMy:aQ:=cF Tryz.f238 [78,0x100004c,192,328,0x200000140,320,192]
theorem aEY:aF Go.Proofs.Tryz.prog (fun _=>true) aMy 238=true:=by decide+kernel
noncomputable def aMz:aQ:=cG Tryz.f247 md [22,54,118,118,16502,0x1000076,118,118,16] [] [(0,[(5,some 2003)])]
theorem aEZ:aF Go.Proofs.Tryz.prog (fun _=>true) aMz 247=true:=by decide+kernel
noncomputable def aMA:aQ:=cF Tryz.f248 [6,38,38,1062,0x100026,16,38,16]
theorem aE0:aF Go.Proofs.Tryz.prog (fun _=>true) aMA 248=true:=by decide+kernel
noncomputable def aMB:aQ:=cF Tryz.f249 [28,56,248,0x4000f8,248,248,248,240,0x100000000070,48,16]
theorem aE1:aF Go.Proofs.Tryz.prog (fun _=>true) aMB 249=true:=by decide+kernel
noncomputable def aMC:aQ:=cF Tryz.f250 [120,240,480,448,192,64]
theorem aE2:aF Go.Proofs.Tryz.prog (fun _=>true) aMC 250=true:=by decide+kernel
noncomputable def aMD:aQ:=cF Tryz.f251 [2,10,4]
theorem aE3:aF Go.Proofs.Tryz.prog (fun _=>true) aMD 251=true:=by decide+kernel
noncomputable def aME:aQ:=cF Tryz.f252 [220,468,2004,1492,1472,1472,1472,192]
theorem aE4:aF Go.Proofs.Tryz.prog (fun _=>true) aME 252=true:=by decide+kernel
noncomputable def aMF:aQ:=cF Tryz.f253 [28,32796,112,524316,112,0x2000001c,112,156,148,148,112]
theorem aE5:aF Go.Proofs.Tryz.prog (fun _=>true) aMF 253=true:=by decide+kernel
noncomputable def aMG:aQ:=cF Tryz.f257 [19,275,48,83,48]
theorem aE6:aF Go.Proofs.Tryz.prog (fun _=>true) aMG 257=true:=by decide+kernel
noncomputable def aE7:aQ:=cF Tryz.f258 [3,16]
theorem aE8:aF Go.Proofs.Tryz.prog (fun _=>true) aE7 258=true:=by decide+kernel
noncomputable def aE9:aQ:=cF Tryz.f259 [7,131077,16,0,16]
theorem aFa:aF Go.Proofs.Tryz.prog (fun _=>true) aE9 259=true:=by decide+kernel
noncomputable def aMH:aQ:=cF Tryz.f260 [3,16]
theorem aFb:aF Go.Proofs.Tryz.prog (fun _=>true) aMH 260=true:=by decide+kernel
noncomputable def aMI:aQ:=cF Tryz.f261 [6,70,4166,48,384,0x400080,48,48]
theorem aFc:aF Go.Proofs.Tryz.prog (fun _=>true) aMI 261=true:=by decide+kernel
noncomputable def aMJ:aQ:=cF Tryz.f262 [7,7,65543,64,135,129,1,64]
theorem aFd:aF Go.Proofs.Tryz.prog (fun _=>true) aMJ 262=true:=by decide+kernel
noncomputable def aMK:aQ:=cF Tryz.f264 [12,76,1100,48,48]
theorem aFe:aF Go.Proofs.Tryz.prog (fun _=>true) aMK 264=true:=by decide+kernel
noncomputable def aML:aQ:=cF Tryz.f265 [42,0]
theorem aFf:aF Go.Proofs.Tryz.prog (fun _=>true) aML 265=true:=by decide+kernel
noncomputable def aMM:aQ:=cF Tryz.f266 [3,387,387,899,419,65955,16,387,16]
theorem aFg:aF Go.Proofs.Tryz.prog (fun _=>true) aMM 266=true:=by decide+kernel
noncomputable def aMN:aQ:=cF Tryz.f267 [1,17,12]
theorem aFh:aF Go.Proofs.Tryz.prog (fun _=>true) aMN 267=true:=by decide+kernel
noncomputable def aBE:aQ:=cF Tryz.f268 [6,4]
theorem aFi:aF Go.Proofs.Tryz.prog (fun _=>true) aBE 268=true:=by decide+kernel
noncomputable def aMO:aQ:=cF Tryz.f269 [28,220,65756,48,0x10001c,48,284,272,48]
theorem aFj:aF Go.Proofs.Tryz.prog (fun _=>true) aMO 269=true:=by decide+kernel
noncomputable def aMP:aQ:=cF Tryz.f279 [14,14,0]
theorem aFk:aF Go.Proofs.Tryz.prog (fun _=>true) aMP 279=true:=by decide+kernel
noncomputable def aMQ:aQ:=cF Tryz.f280 [28,56,56,48,16]
theorem aFl:aF Go.Proofs.Tryz.prog (fun _=>true) aMQ 280=true:=by decide+kernel
noncomputable def aMR:aQ:=cF Tryz.f281 [6,6,22,4118,0x100000016,22,0x400000000016,20,6]
theorem aFm:aF Go.Proofs.Tryz.prog (fun _=>true) aMR 281=true:=by decide+kernel
noncomputable def aMS:aQ:=cF Tryz.f282 [6,6,0x200006,6,6,16]
theorem aFn:aF Go.Proofs.Tryz.prog (fun _=>true) aMS 282=true:=by decide+kernel
noncomputable def aMT:aQ:=cF Tryz.f283 [14,28,60,60,60,60,12]
theorem aFo:aF Go.Proofs.Tryz.prog (fun _=>true) aMT 283=true:=by decide+kernel
noncomputable def aMU:aQ:=cF Tryz.f285 [113,0x2000071,192,0x8000070,192,192]
theorem aFp:aF Go.Proofs.Tryz.prog (fun _=>true) aMU 285=true:=by decide+kernel
noncomputable def aFq:aQ:=cF Tryz.f286 [3,387,387,899,419,65955,16,387,16]
theorem aFr:aF Go.Proofs.Tryz.prog (fun _=>true) aFq 286=true:=by decide+kernel
noncomputable def aMV:aQ:=cF Tryz.f287 [3,387,387,899,419,65955,16,387,16]
theorem aFs:aF Go.Proofs.Tryz.prog (fun _=>true) aMV 287=true:=by decide+kernel
noncomputable def aMW:aQ:=cF Tryz.f288 [7,263,1799,1799,132871,3847,0x80000f07,1799,1799,192]
theorem aFt:aF Go.Proofs.Tryz.prog (fun _=>true) aMW 288=true:=by decide+kernel
noncomputable def aMX:aQ:=cF Tryz.f289 [6,16]
theorem aFu:aF Go.Proofs.Tryz.prog (fun _=>true) aMX 289=true:=by decide+kernel
noncomputable def aMY:aQ:=cF Tryz.f291 [3,16]
theorem aFv:aF Go.Proofs.Tryz.prog (fun _=>true) aMY 291=true:=by decide+kernel
end Go.Proofs.YtfejhjllooomlaaGreat
