/- The seat's functions as the logical machine runs them (reckoned), and the look at each of them. Printed by a program. -/
import Derived.Test.YtfejhjllooomlaaGreatEVm2
import Derived.Test.YtfejhjllooomlaaGreatProg
set_option maxRecDepth 100000
namespace Go.Proofs.YtfejhjllooomlaaGreat
open Go.Vm
abbrev md:FuncId->CM:=aQc [55,115,177] [219,229,258,268,272,286] [67,126,187,212,220,227,228,230,231,232,233,234,262,265,270,273,274,292]
abbrev mdX (l:List FuncId) (f:FuncId):CM:=bif has l f then .pur else md f
noncomputable abbrev cF (fn:Go.Func) (ks:List Nat):aQ:=aNU Go.Proofs.Tryz.prog fn ⟨md,ks,[],[],false⟩
noncomputable abbrev cG (fn:Go.Func) (m:FuncId->CM) (ks:List Nat) (a:List (Nat×List (Nat×Nat))) (b:List (Nat×List (Nat×Option Nat))):aQ:=aNU Go.Proofs.Tryz.prog fn ⟨m,ks,a,b,false⟩
noncomputable def x4:aQ:=cF Tryz.f4 [56,184,0x200000000b8,64,936,0x800000000001a8,64,5288,0x10000000000000000004a8,64,9384,9384,0x200000000000000000024a8,0x4000000000000000000000024a8,64,9384,50344,246944,64]
theorem aN3:aD Go.Proofs.Tryz.prog (fun _=>true) x4 4=true:=by decide+kernel
noncomputable def x10:aQ:=cF Tryz.f10 [0,6,62,510,2046,1]
theorem aJi:aD Go.Proofs.Tryz.prog (fun _=>true) x10 10=true:=by decide+kernel
noncomputable def x12:aQ:=cF Tryz.f12 [2,4]
theorem aJj:aD Go.Proofs.Tryz.prog (fun _=>true) x12 12=true:=by decide+kernel
noncomputable def x13:aQ:=cF Tryz.f13 [2,524290,4,10,10,0x100000a,0x100000000a,4,26,26,0x800000001a,0x1000000000001a,4,26,10,0x800000000000000,4,4]
theorem aJk:aD Go.Proofs.Tryz.prog (fun _=>true) x13 13=true:=by decide+kernel
noncomputable def x14:aQ:=cF Tryz.f14 [12,140,16,16]
theorem aJl:aD Go.Proofs.Tryz.prog (fun _=>true) x14 14=true:=by decide+kernel
noncomputable def x15:aQ:=cF Tryz.f15 [12,96,0x200060,0x4000000,16,16,0x20000060,16,16]
theorem aJm:aD Go.Proofs.Tryz.prog (fun _=>true) x15 15=true:=by decide+kernel
noncomputable def x16:aQ:=cG Tryz.f16 md [28,156,524444,112,0x100001c,112,284,0x80000001c,112,1052,1052,15388,0x200000003c1c,0x800000003c1c,112,1052,50196,112] [(0,[(10,2)])] []
theorem aJn:aD Go.Proofs.Tryz.prog (fun _=>true) x16 16=true:=by decide+kernel
noncomputable def x18:aQ:=cF Tryz.f18 [3,1027,16,35,35,16419,0x2000023,16,35,16]
theorem aJo:aD Go.Proofs.Tryz.prog (fun _=>true) x18 18=true:=by decide+kernel
noncomputable def x19:aQ:=cF Tryz.f19 [2,258,4,10,10,8202,0x40000a,4,10,18,18,0x8000012,0x80000000012,4,18,4]
theorem aJp:aD Go.Proofs.Tryz.prog (fun _=>true) x19 19=true:=by decide+kernel
noncomputable def x20:aQ:=cG Tryz.f20 md [28,220,262364,48,348,0x1c0015c,0x1c0015c,0x3c0015c,0x1c0075c,0x1c0035c,0x1c0015c,0x1c0015c,400,48] [] [(0,[(8,some 12001)])]
theorem aJq:aD Go.Proofs.Tryz.prog (fun _=>true) x20 20=true:=by decide+kernel
noncomputable def x21:aQ:=cF Tryz.f21 [12,4108,16,44,44,131116,0x4000002c,16,44,16]
theorem aJr:aD Go.Proofs.Tryz.prog (fun _=>true) x21 21=true:=by decide+kernel
noncomputable def x22:aQ:=cF Tryz.f22 [60,256]
theorem aJs:aD Go.Proofs.Tryz.prog (fun _=>true) x22 22=true:=by decide+kernel
noncomputable def x23:aQ:=cF Tryz.f23 [2,18,274,12,8194,12,12]
theorem aJt:aD Go.Proofs.Tryz.prog (fun _=>true) x23 23=true:=by decide+kernel
noncomputable def x24:aQ:=cF Tryz.f24 [12,192,32960,48,524352,48,48]
theorem aJu:aD Go.Proofs.Tryz.prog (fun _=>true) x24 24=true:=by decide+kernel
noncomputable def x25:aQ:=cF Tryz.f25 [12,16]
theorem aJv:aD Go.Proofs.Tryz.prog (fun _=>true) x25 25=true:=by decide+kernel
noncomputable def x26:aQ:=cF Tryz.f26 [2,0x100000,4,4]
theorem aJw:aD Go.Proofs.Tryz.prog (fun _=>true) x26 26=true:=by decide+kernel
noncomputable def x30:aQ:=cF Tryz.f30 [56,64]
theorem aJx:aD Go.Proofs.Tryz.prog (fun _=>true) x30 30=true:=by decide+kernel
noncomputable def x40:aQ:=cF Tryz.f40 [6,38,38,1062,0x100026,16,38,16]
theorem aJy:aD Go.Proofs.Tryz.prog (fun _=>true) x40 40=true:=by decide+kernel
noncomputable def x44:aQ:=cF Tryz.f44 [2,0x40000000,4,4]
theorem aJz:aD Go.Proofs.Tryz.prog (fun _=>true) x44 44=true:=by decide+kernel
noncomputable def x49:aQ:=cF Tryz.f49 [1,1]
theorem aJA:aD Go.Proofs.Tryz.prog (fun _=>true) x49 49=true:=by decide+kernel
noncomputable def x50:aQ:=cF Tryz.f50 [5,4]
theorem aJB:aD Go.Proofs.Tryz.prog (fun _=>true) x50 50=true:=by decide+kernel
noncomputable def x51:aQ:=cF Tryz.f51 [3,1027,16,35,35,16419,0x2000023,16,35,16]
theorem aJC:aD Go.Proofs.Tryz.prog (fun _=>true) x51 51=true:=by decide+kernel
noncomputable def x53:aQ:=cF Tryz.f53 [2,0x100000000000002,4,10,26,26,0x400000000000001a,58,250,0x40000000000000000007a,0x400000000000000000000007a,4,890,0x2000000000000000000000000000001a,4,26,26,0x1000000000000000000000000000000000,4,4]
theorem aJD:aD Go.Proofs.Tryz.prog (fun _=>true) x53 53=true:=by decide+kernel
noncomputable def x54:aQ:=cF Tryz.f54 [6,4102,16,38,38,65574,0x4000000026,16,38,16]
theorem aJE:aD Go.Proofs.Tryz.prog (fun _=>true) x54 54=true:=by decide+kernel
noncomputable def x55:aQ:=cG Tryz.f55 md [1,9,25,25,281,25,25,4] [(0,[(3,2)])] []
theorem aJF:aD Go.Proofs.Tryz.prog (fun _=>true) x55 55=true:=by decide+kernel
noncomputable def x56:aQ:=cF Tryz.f56 [19,51,48,16]
theorem aJG:aD Go.Proofs.Tryz.prog (fun _=>true) x56 56=true:=by decide+kernel
noncomputable def x57:aQ:=cF Tryz.f57 [2,1026,4,4096,4,4]
theorem aJH:aD Go.Proofs.Tryz.prog (fun _=>true) x57 57=true:=by decide+kernel
noncomputable def x58:aQ:=cF Tryz.f58 [12,524,16384,16,16,524300,0x1000000,16,16,16]
theorem aJI:aD Go.Proofs.Tryz.prog (fun _=>true) x58 58=true:=by decide+kernel
noncomputable def x59:aQ:=cF Tryz.f59 [2,0x400002,4,0x1c000002,0x1c000002,0x3c000002,0x1c000012,0x201c000002,4,0x1c000002,34,0x2000000000022,4,0xe0000000000022,0xe0000000000022,0x1e0000000000022,0xe00000000000a2,0x800000e0000000000022,4,0xe0000000000022,4]
theorem aJJ:aD Go.Proofs.Tryz.prog (fun _=>true) x59 59=true:=by decide+kernel
noncomputable def x60:aQ:=cF Tryz.f60 [2,0x100000,4,4]
theorem aJK:aD Go.Proofs.Tryz.prog (fun _=>true) x60 60=true:=by decide+kernel
noncomputable def x61:aQ:=cF Tryz.f61 [12,76,4172,48,0x10000c,48,132,0x8000000080,128,48]
theorem aJL:aD Go.Proofs.Tryz.prog (fun _=>true) x61 61=true:=by decide+kernel
noncomputable def x62:aQ:=cF Tryz.f62 [60,1716,0x10006b4,112,2736,15024,2736,3760,112]
theorem aJM:aD Go.Proofs.Tryz.prog (fun _=>true) x62 62=true:=by decide+kernel
noncomputable def x63:aQ:=cF Tryz.f63 [28,220,524444,156,0x20009c,48,280,272,48]
theorem aJN:aD Go.Proofs.Tryz.prog (fun _=>true) x63 63=true:=by decide+kernel
noncomputable def x66:aQ:=cF Tryz.f66 [28,92,8284,48,156,524444,48,796,48]
theorem aJO:aD Go.Proofs.Tryz.prog (fun _=>true) x66 66=true:=by decide+kernel
noncomputable def x67:aQ:=cF Tryz.f67 [60,60,0x100003c,60,60]
theorem aJP:aD Go.Proofs.Tryz.prog (fun _=>true) x67 67=true:=by decide+kernel
noncomputable def x68:aQ:=cF Tryz.f68 [92,229468,229468,491612,229980,0x203825c,229468,229468,92,0x1000000005c,1100,0x100000000044c,192,0x38000000000048,0x38000000000048,0x78000000000048,0x38000000001048,0x2038000000001048,0x38000000000448,0x400038000000000448,192,0x38000000000048,192]
theorem aJQ:aD Go.Proofs.Tryz.prog (fun _=>true) x68 68=true:=by decide+kernel
noncomputable def x69:aQ:=cG Tryz.f69 md [1,9,25,25,281,25,25,4] [(0,[(3,2)])] []
theorem aJR:aD Go.Proofs.Tryz.prog (fun _=>true) x69 69=true:=by decide+kernel
noncomputable def x70:aQ:=cF Tryz.f70 [56,152,8344,64,0x100018,64,64]
theorem aJS:aD Go.Proofs.Tryz.prog (fun _=>true) x70 70=true:=by decide+kernel
noncomputable def x71:aQ:=cF Tryz.f71 [12,76,4172,48,140,131212,48,264,256,48]
theorem aJT:aD Go.Proofs.Tryz.prog (fun _=>true) x71 71=true:=by decide+kernel
noncomputable def x72:aQ:=cF Tryz.f72 [3,3,67,3,16]
theorem aJU:aD Go.Proofs.Tryz.prog (fun _=>true) x72 72=true:=by decide+kernel
noncomputable def x73:aQ:=cF Tryz.f73 [1,17,4,4]
theorem aJV:aD Go.Proofs.Tryz.prog (fun _=>true) x73 73=true:=by decide+kernel
noncomputable def x83:aQ:=cF Tryz.f83 [3,387,387,899,419,65955,16,387,16]
theorem aJW:aD Go.Proofs.Tryz.prog (fun _=>true) x83 83=true:=by decide+kernel
noncomputable def x87:aQ:=cF Tryz.f87 [2,2050,4,57346,57346,122882,57362,57378,0x40e022,4,57346,0x1c000002,0x1c000002,0x3c000002,0x1c0000c2,0x40001c000002,4,0x1c000002,4]
theorem aJX:aD Go.Proofs.Tryz.prog (fun _=>true) x87 87=true:=by decide+kernel
noncomputable def x88:aQ:=cF Tryz.f88 [2,10,0x800000,4,4]
theorem aJY:aD Go.Proofs.Tryz.prog (fun _=>true) x88 88=true:=by decide+kernel
noncomputable def x89:aQ:=cF Tryz.f89 [6,48]
theorem aJZ:aD Go.Proofs.Tryz.prog (fun _=>true) x89 89=true:=by decide+kernel
noncomputable def x92:aQ:=cF Tryz.f92 [6,70,4166,48,384,0x200080,48,48]
theorem aJ0:aD Go.Proofs.Tryz.prog (fun _=>true) x92 92=true:=by decide+kernel
noncomputable def x96:aQ:=cF Tryz.f96 [2,524290,4,10,10,0x100000a,26,0x800000000000001a,4,58,58,0x4000000000000003a,0x2000000000000000003a,4,58,10,4]
theorem aJ1:aD Go.Proofs.Tryz.prog (fun _=>true) x96 96=true:=by decide+kernel
noncomputable def x97:aQ:=cF Tryz.f97 [12,44,44,1068,0x40000002c,16,44,16]
theorem aJ2:aD Go.Proofs.Tryz.prog (fun _=>true) x97 97=true:=by decide+kernel
noncomputable def x98:aQ:=cF Tryz.f98 [2,32770,4,10,10,0x10000a,26,0x2000000001a,4,58,58,0x10000000003a,0x8000000000003a,4,58,10,66,66,0x1000000000000042,0x8000000000000000042,4,66,4]
theorem aJ3:aD Go.Proofs.Tryz.prog (fun _=>true) x98 98=true:=by decide+kernel
noncomputable def x99:aQ:=cF Tryz.f99 [120,192]
theorem aJ4:aD Go.Proofs.Tryz.prog (fun _=>true) x99 99=true:=by decide+kernel
noncomputable def aJ5:aQ:=cF Tryz.f100 [28,284,48,16412,48,48]
theorem aCS:aD Go.Proofs.Tryz.prog (fun _=>true) aJ5 100=true:=by decide+kernel
noncomputable def aJ6:aQ:=cF Tryz.f101 [12,44,44,1068,0x10002c,16,44,16]
theorem aCT:aD Go.Proofs.Tryz.prog (fun _=>true) aJ6 101=true:=by decide+kernel
noncomputable def aJ7:aQ:=cF Tryz.f102 [19,496,1008,1776,3760,16]
theorem aCU:aD Go.Proofs.Tryz.prog (fun _=>true) aJ7 102=true:=by decide+kernel
noncomputable def aJ8:aQ:=cF Tryz.f103 [2,0x7000002,0x7000002,0xf000002,0x7000012,0x87000002,4,0x7000002,0x800000000002,4,34,0x70000000000022,0x70000000000022,0xf0000000000022,0x700000000000a2,0x700000000007a2,0x4000700000000003a2,4,0x10000700000000001a2,0x10000000700000000001a2,4,0x700000000009a2,0x40000000000000000070000000000022,4,0x70000000000022,0x70000000000022,0x1000000000000000000000000000000000,4,4]
theorem aCV:aD Go.Proofs.Tryz.prog (fun _=>true) aJ8 103=true:=by decide+kernel
noncomputable def aJ9:aQ:=cF Tryz.f104 [3,16]
theorem aCW:aD Go.Proofs.Tryz.prog (fun _=>true) aJ9 104=true:=by decide+kernel
noncomputable def aKa:aQ:=cF Tryz.f105 [9,16]
theorem aCX:aD Go.Proofs.Tryz.prog (fun _=>true) aKa 105=true:=by decide+kernel
noncomputable def aKb:aQ:=cF Tryz.f106 [60,568,2592,8192,256]
theorem aCY:aD Go.Proofs.Tryz.prog (fun _=>true) aKb 106=true:=by decide+kernel
noncomputable def aKc:aQ:=cF Tryz.f107 [3,3,67,3,16]
theorem aCZ:aD Go.Proofs.Tryz.prog (fun _=>true) aKc 107=true:=by decide+kernel
noncomputable def aKd:aQ:=cF Tryz.f108 [1,17,4,4]
theorem aC0:aD Go.Proofs.Tryz.prog (fun _=>true) aKd 108=true:=by decide+kernel
noncomputable def aKe:aQ:=cF Tryz.f109 [12,16]
theorem aC1:aD Go.Proofs.Tryz.prog (fun _=>true) aKe 109=true:=by decide+kernel
noncomputable def aKf:aQ:=cF Tryz.f110 [3,35,99,2115,4096,16,16,8195,16,65539,16,524288,16,16]
theorem aC2:aD Go.Proofs.Tryz.prog (fun _=>true) aKf 110=true:=by decide+kernel
noncomputable def aKg:aQ:=cF Tryz.f111 [12,44,4140,16,16]
theorem aC3:aD Go.Proofs.Tryz.prog (fun _=>true) aKg 111=true:=by decide+kernel
noncomputable def aKh:aQ:=cF Tryz.f112 [19,115,16]
theorem aC4:aD Go.Proofs.Tryz.prog (fun _=>true) aKh 112=true:=by decide+kernel
noncomputable def aKi:aQ:=cF Tryz.f113 [124,884,0x1000274,628,0x4000274,240,1140,7792,0x200000001e70,240,7280,240]
theorem aC5:aD Go.Proofs.Tryz.prog (fun _=>true) aKi 113=true:=by decide+kernel
noncomputable def aKj:aQ:=cF Tryz.f114 [12,76,524364,48,140,0x2000000c,48,1544,0x2000000208,48,2048,48]
theorem aC6:aD Go.Proofs.Tryz.prog (fun _=>true) aKj 114=true:=by decide+kernel
noncomputable def aKk:aQ:=cF Tryz.f115 [6,6,6,14,6,4]
theorem aC7:aD Go.Proofs.Tryz.prog (fun _=>true) aKk 115=true:=by decide+kernel
noncomputable def aKl:aQ:=cF Tryz.f118 [5,53,4149,12,12]
theorem aC8:aD Go.Proofs.Tryz.prog (fun _=>true) aKl 118=true:=by decide+kernel
noncomputable def aKm:aQ:=cF Tryz.f119 [22,86,8278,48,656,48]
theorem aC9:aD Go.Proofs.Tryz.prog (fun _=>true) aKm 119=true:=by decide+kernel
noncomputable def aKn:aQ:=cF Tryz.f120 [3,1027,16,12291,12291,28675,12323,0x1003003,16,12291,16]
theorem aDa:aD Go.Proofs.Tryz.prog (fun _=>true) aKn 120=true:=by decide+kernel
noncomputable def aKo:aQ:=cG Tryz.f121 (mdX [115]) [28,92,0x40005c,48,156,0x1000009c,48,0xe0000001c,0xe0000001c,0x1e0000001c,0xe0000021c,0x40000e0000001c,48,0xe0000001c,1052,1052,0x38000000000000041c,0x38000000000000041c,0x78000000000000041c,0x38000000000000141c,0x38000000000000f41c,0x38000000000003f41c,0x8000038000000000003f41c,0x38000000000001841c,0x38000000000000841c,0x100000000000038000000000003b41c,0x38000000000004341c,0x38000000000004341c,0x38000000000004841c,0x38000000000000841c,0x80000000000000000038000000000001841c,0x38000000000000841c,0x1000000000000000000000038000000000000841c,48,0x38000000000000041c,48] [] [(1,[(10,some 11003)])]
theorem aDb:aD Go.Proofs.Tryz.prog (fun _=>true) aKo 121=true:=by decide+kernel
noncomputable def aKp:aQ:=cF Tryz.f122 [3,16]
theorem aDc:aD Go.Proofs.Tryz.prog (fun _=>true) aKp 122=true:=by decide+kernel
noncomputable def aKq:aQ:=cF Tryz.f123 [6,8]
theorem aDd:aD Go.Proofs.Tryz.prog (fun _=>true) aKq 123=true:=by decide+kernel
noncomputable def aKr:aQ:=cF Tryz.f124 [28,156,412,0x20019c,112,3740,0x2000000e9c,112,0x800000000000e9c,112,0x40000000000000e9c,112,5788,5276,31892,0x10000000000000000007c94,112,0x800000000000000000003494,234640,0x400000000000000000000039490,112,5136,112]
theorem aDe:aD Go.Proofs.Tryz.prog (fun _=>true) aKr 124=true:=by decide+kernel
noncomputable def aKs:aQ:=cF Tryz.f125 [56,64]
theorem aDf:aD Go.Proofs.Tryz.prog (fun _=>true) aKs 125=true:=by decide+kernel
noncomputable def aKt:aQ:=cF Tryz.f126 [19,0]
theorem aDg:aD Go.Proofs.Tryz.prog (fun _=>true) aKt 126=true:=by decide+kernel
noncomputable def aA4:aQ:=cF Tryz.f127 [28,4124,32,64,0x100000,32,32]
theorem aDh:aD Go.Proofs.Tryz.prog (fun _=>true) aA4 127=true:=by decide+kernel
noncomputable def aKu:aQ:=cF Tryz.f128 [56,312,16696,192,192]
theorem aDi:aD Go.Proofs.Tryz.prog (fun _=>true) aKu 128=true:=by decide+kernel
noncomputable def aKv:aQ:=cF Tryz.f131 [28,92,4188,48,524316,48,48]
theorem aDj:aD Go.Proofs.Tryz.prog (fun _=>true) aKv 131=true:=by decide+kernel
noncomputable def aKw:aQ:=cF Tryz.f139 [22,212,32980,48,48]
theorem aDk:aD Go.Proofs.Tryz.prog (fun _=>true) aKw 139=true:=by decide+kernel
noncomputable def aKx:aQ:=cF Tryz.f148 [1,4]
theorem aDl:aD Go.Proofs.Tryz.prog (fun _=>true) aKx 148=true:=by decide+kernel
noncomputable def aKy:aQ:=cF Tryz.f149 [7,263,1799,1799,132871,3847,0x80000f07,1799,1799,192]
theorem aDm:aD Go.Proofs.Tryz.prog (fun _=>true) aKy 149=true:=by decide+kernel
noncomputable def aKz:aQ:=cF Tryz.f150 [6,16]
theorem aDn:aD Go.Proofs.Tryz.prog (fun _=>true) aKz 150=true:=by decide+kernel
noncomputable def aKA:aQ:=cF Tryz.f151 [3,35,99,2115,4096,16,16,8195,16,65539,16,524288,16,16]
theorem aDo:aD Go.Proofs.Tryz.prog (fun _=>true) aKA 151=true:=by decide+kernel
noncomputable def aKB:aQ:=cF Tryz.f155 [2,4]
theorem aDp:aD Go.Proofs.Tryz.prog (fun _=>true) aKB 155=true:=by decide+kernel
noncomputable def aKC:aQ:=cF Tryz.f156 [2,10,0x2000000a,4,26,58,58,0x100000003a,0x800000000000003a,4,58,58,90,90,0x200000000000000005a,0x10000000000000000000000000005a,4,90,4]
theorem aDq:aD Go.Proofs.Tryz.prog (fun _=>true) aKC 156=true:=by decide+kernel
noncomputable def aKD:aQ:=cF Tryz.f157 [2,10,0x400000a,4,26,26,0x2000001a,0x400000001a,0x10000000001a,4,58,0x20000000000000000001a,4,26,4]
theorem aDr:aD Go.Proofs.Tryz.prog (fun _=>true) aKD 157=true:=by decide+kernel
noncomputable def aKE:aQ:=cF Tryz.f158 [12,44,16]
theorem aDs:aD Go.Proofs.Tryz.prog (fun _=>true) aKE 158=true:=by decide+kernel
noncomputable def aKF:aQ:=cF Tryz.f159 [120,2168,192,131160,192,192]
theorem aDt:aD Go.Proofs.Tryz.prog (fun _=>true) aKF 159=true:=by decide+kernel
noncomputable def aKG:aQ:=cF Tryz.f160 [12,16]
theorem aDu:aD Go.Proofs.Tryz.prog (fun _=>true) aKG 160=true:=by decide+kernel
noncomputable def aKH:aQ:=cF Tryz.f161 [2,0x100002,4,26,0x380001a,0x380001a,0x780001a,0x380005a,0x800000380004a,4,0x380001a,0x380001a,4]
theorem aDv:aD Go.Proofs.Tryz.prog (fun _=>true) aKH 161=true:=by decide+kernel
noncomputable def aKI:aQ:=cF Tryz.f162 [2,0x1000000002,4,0x1c000000002,0x1c000000002,0x3c000000002,0x1c00000001a,0x801c00000001a,0x2001c000000002,4,0x8000000001c000000002,4,0x1c000000002,34,0x3800000000000000000022,0x3800000000000000000022,0x7800000000000000000022,0x38000000000000000000e2,0x20000038000000000000000000e2,4,0x38000000000000000000e2,0x40000000003800000000000000000022,4,0x3800000000000000000022,4]
theorem aDw:aD Go.Proofs.Tryz.prog (fun _=>true) aKI 162=true:=by decide+kernel
noncomputable def aKJ:aQ:=cF Tryz.f163 [120,448]
theorem aDx:aD Go.Proofs.Tryz.prog (fun _=>true) aKJ 163=true:=by decide+kernel
noncomputable def aKK:aQ:=cF Tryz.f164 [9,393,393,905,425,65961,16,393,16]
theorem aDy:aD Go.Proofs.Tryz.prog (fun _=>true) aKK 164=true:=by decide+kernel
noncomputable def aKL:aQ:=cF Tryz.f165 [1,4]
theorem aDz:aD Go.Proofs.Tryz.prog (fun _=>true) aKL 165=true:=by decide+kernel
noncomputable def aKM:aQ:=cF Tryz.f166 [3,35,99,2115,4096,16,16,8195,16,65539,16,524288,16,16]
theorem aDA:aD Go.Proofs.Tryz.prog (fun _=>true) aKM 166=true:=by decide+kernel
noncomputable def aKN:aQ:=cF Tryz.f167 [3,67,195,451,963,1987,2755,6851,12995,12931,19,48]
theorem aDB:aD Go.Proofs.Tryz.prog (fun _=>true) aKN 167=true:=by decide+kernel
noncomputable def aKO:aQ:=cF Tryz.f168 [54,950,0x20003b6,112,1462,1334,7476,0x10000000d34,44336,0x8000000000ad30,112,1328,112]
theorem aDC:aD Go.Proofs.Tryz.prog (fun _=>true) aKO 168=true:=by decide+kernel
noncomputable def aKP:aQ:=cF Tryz.f169 [6,22,278,12,16390,12,12]
theorem aDD:aD Go.Proofs.Tryz.prog (fun _=>true) aKP 169=true:=by decide+kernel
noncomputable def aKQ:aQ:=cF Tryz.f176 [5,2053,12,21,0x300015,0x300015,0x700015,0x300035,0x300015,0x300015,12]
theorem aDE:aD Go.Proofs.Tryz.prog (fun _=>true) aKQ 176=true:=by decide+kernel
noncomputable def aKR:aQ:=cF Tryz.f177 [3,1027,3,97,0x4000041,65,129,384,384,0x2000000180,384,16]
theorem aDF:aD Go.Proofs.Tryz.prog (fun _=>true) aKR 177=true:=by decide+kernel
noncomputable def aKS:aQ:=cF Tryz.f178 [22,116,32820,16,16]
theorem aDG:aD Go.Proofs.Tryz.prog (fun _=>true) aKS 178=true:=by decide+kernel
noncomputable def aKT:aQ:=cF Tryz.f179 [3,48]
theorem aDH:aD Go.Proofs.Tryz.prog (fun _=>true) aKT 179=true:=by decide+kernel
noncomputable def aKU:aQ:=cF Tryz.f180 [120,376,524664,192,1640,0x20000668,192,2656,6752,6720,2112,192]
theorem aDI:aD Go.Proofs.Tryz.prog (fun _=>true) aKU 180=true:=by decide+kernel
noncomputable def aKV:aQ:=cF Tryz.f181 [248,760,0x2002f8,448,0x400000f8,448,0x10000000f8,448,7416,0x800000001cf8,448,11504,27840,26816,10432,448]
theorem aDJ:aD Go.Proofs.Tryz.prog (fun _=>true) aKV 181=true:=by decide+kernel
noncomputable def aKW:aQ:=cF Tryz.f182 [60,436,65972,112,112]
theorem aDK:aD Go.Proofs.Tryz.prog (fun _=>true) aKW 182=true:=by decide+kernel
noncomputable def aKX:aQ:=cF Tryz.f183 [3,387,387,899,419,65955,16,387,16]
theorem aDL:aD Go.Proofs.Tryz.prog (fun _=>true) aKX 183=true:=by decide+kernel
noncomputable def aKY:aQ:=cF Tryz.f184 [5,28]
theorem aDM:aD Go.Proofs.Tryz.prog (fun _=>true) aKY 184=true:=by decide+kernel
noncomputable def aKZ:aQ:=cF Tryz.f185 [28,156,4252,112,131100,112,0x40001c,112,0x10000001c,112,276,112]
theorem aDN:aD Go.Proofs.Tryz.prog (fun _=>true) aKZ 185=true:=by decide+kernel
noncomputable def aK0:aQ:=cF Tryz.f186 [28,4124,52,0x40000030,48,16,0x800000001c,84,80,16,152,144,16]
theorem aDO:aD Go.Proofs.Tryz.prog (fun _=>true) aK0 186=true:=by decide+kernel
noncomputable def aK1:aQ:=cF Tryz.f187 [1055,3103,3103,7199,0x2001c1f,0,0x100001c1f,0,0x8000001c1f,7199,7199,31775,0x100000000007c1f,15391,15391,31775,0x8000000000000003c1f,0x100000000000000003c1f,0x2000000000000000000003c1f,35869,3103,200735,71711,858143,0x1d081f,0x200000000000000000000000001d081f,68639,68637,3103,68639,68635,3103]
theorem aDP:aD Go.Proofs.Tryz.prog (fun _=>true) aK1 187=true:=by decide+kernel
noncomputable def aK2:aQ:=cF Tryz.f188 [1,4,4]
theorem aDQ:aD Go.Proofs.Tryz.prog (fun _=>true) aK2 188=true:=by decide+kernel
noncomputable def aK3:aQ:=cF Tryz.f189 [56,152,65688,64,0x400000,64,64]
theorem aDR:aD Go.Proofs.Tryz.prog (fun _=>true) aK3 189=true:=by decide+kernel
noncomputable def aK4:aQ:=cF Tryz.f190 [56,152,0x10000098,0x80000000,64,64,64]
theorem aDS:aD Go.Proofs.Tryz.prog (fun _=>true) aK4 190=true:=by decide+kernel
noncomputable def aK5:aQ:=cF Tryz.f192 [19,275,48,83,48]
theorem aDT:aD Go.Proofs.Tryz.prog (fun _=>true) aK5 192=true:=by decide+kernel
noncomputable def aK6:aQ:=cF Tryz.f194 [1,9,456,456,968,488,16872,4,456,4]
theorem aDU:aD Go.Proofs.Tryz.prog (fun _=>true) aK6 194=true:=by decide+kernel
noncomputable def aK7:aQ:=cF Tryz.f203 [1,4]
theorem aDV:aD Go.Proofs.Tryz.prog (fun _=>true) aK7 203=true:=by decide+kernel
noncomputable def aK8:aQ:=cF Tryz.f205 [28,48,16]
theorem aDW:aD Go.Proofs.Tryz.prog (fun _=>true) aK8 205=true:=by decide+kernel
noncomputable def aK9:aQ:=cF Tryz.f206 [2,4]
theorem aDX:aD Go.Proofs.Tryz.prog (fun _=>true) aK9 206=true:=by decide+kernel
noncomputable def aLa:aQ:=cF Tryz.f207 [2,10,0x80000a,4,26,50,0x800000002,4,0xe000000002,0xe000000002,0x1e000000002,0xe0000000c2,0x100000e000000002,4,0xe000000002,4]
theorem aDY:aD Go.Proofs.Tryz.prog (fun _=>true) aLa 207=true:=by decide+kernel
noncomputable def aLb:aQ:=cF Tryz.f208 [12,44,16]
theorem aDZ:aD Go.Proofs.Tryz.prog (fun _=>true) aLb 208=true:=by decide+kernel
noncomputable def aLc:aQ:=cF Tryz.f209 [120,632,131704,448,0x1000078,448,0x40000058,448,3136,448]
theorem aD0:aD Go.Proofs.Tryz.prog (fun _=>true) aLc 209=true:=by decide+kernel
noncomputable def aLd:aQ:=cF Tryz.f210 [1,4]
theorem aD1:aD Go.Proofs.Tryz.prog (fun _=>true) aLd 210=true:=by decide+kernel
noncomputable def aLe:aQ:=cF Tryz.f211 [54,436,65972,112,112]
theorem aD2:aD Go.Proofs.Tryz.prog (fun _=>true) aLe 211=true:=by decide+kernel
noncomputable def aLf:aQ:=cF Tryz.f212 [7,7,65543,64,135,129,1,64]
theorem aD3:aD Go.Proofs.Tryz.prog (fun _=>true) aLf 212=true:=by decide+kernel
noncomputable def aLg:aQ:=cF Tryz.f214 [3,192,48,768,48]
theorem aD4:aD Go.Proofs.Tryz.prog (fun _=>true) aLg 214=true:=by decide+kernel
noncomputable def aLh:aQ:=cF Tryz.f215 [6,16]
theorem aD5:aD Go.Proofs.Tryz.prog (fun _=>true) aLh 215=true:=by decide+kernel
noncomputable def aLi:aQ:=cF Tryz.f216 [7,263,1799,1799,132871,3847,0x80000f07,1799,1799,192]
theorem aD6:aD Go.Proofs.Tryz.prog (fun _=>true) aLi 216=true:=by decide+kernel
noncomputable def aLj:aQ:=cF Tryz.f217 [6,16]
theorem aD7:aD Go.Proofs.Tryz.prog (fun _=>true) aLj 217=true:=by decide+kernel
noncomputable def aLk:aQ:=cF Tryz.f218 [12,76,4172,48,396,0x400000c,48,48]
theorem aD8:aD Go.Proofs.Tryz.prog (fun _=>true) aLk 218=true:=by decide+kernel
noncomputable def Y7:aQ:=cF Tryz.f219 [6,6,4]
theorem aD9:aD Go.Proofs.Tryz.prog (fun _=>true) Y7 219=true:=by decide+kernel
noncomputable def aLl:aQ:=cF Tryz.f220 [42,42,0x10002a,42,42,106,106,0x2000000006a,0x2000000000000006a,106,0x800000000000000006a,104,42,106,0]
theorem aEa:aD Go.Proofs.Tryz.prog (fun _=>true) aLl 220=true:=by decide+kernel
noncomputable def aLm:aQ:=cF Tryz.f221 [3,16]
theorem aEb:aD Go.Proofs.Tryz.prog (fun _=>true) aLm 221=true:=by decide+kernel
noncomputable def aLn:aQ:=cF Tryz.f222 [6,8]
theorem aEc:aD Go.Proofs.Tryz.prog (fun _=>true) aLn 222=true:=by decide+kernel
noncomputable def aLo:aQ:=cF Tryz.f223 [14,46,4142,28,524302,28,206,0x2000000ce,28,460,396,396,28]
theorem aEd:aD Go.Proofs.Tryz.prog (fun _=>true) aLo 223=true:=by decide+kernel
noncomputable def aLp:aQ:=cF Tryz.f224 [54,182,950,0x80003b6,112,1458,3506,7602,7346,0x2000000000014b2,1200,112]
theorem aEe:aD Go.Proofs.Tryz.prog (fun _=>true) aLp 224=true:=by decide+kernel
noncomputable def aLq:aQ:=cF Tryz.f225 [6,8]
theorem aEf:aD Go.Proofs.Tryz.prog (fun _=>true) aLq 225=true:=by decide+kernel
noncomputable def aLr:aQ:=cF Tryz.f226 [28,60,0x200030,48,16]
theorem aEg:aD Go.Proofs.Tryz.prog (fun _=>true) aLr 226=true:=by decide+kernel
noncomputable def aLs:aQ:=cF Tryz.f227 [271,271,16655,783,783,0x40000030f,783,783,271]
theorem aEh:aD Go.Proofs.Tryz.prog (fun _=>true) aLs 227=true:=by decide+kernel
noncomputable def aLt:aQ:=cF Tryz.f228 [271,783,1801,3849,3849,0x200f09,3849,3849,4873,4873,0x200001309,4873,4873,4873]
theorem aEi:aD Go.Proofs.Tryz.prog (fun _=>true) aLt 228=true:=by decide+kernel
noncomputable def aLu:aQ:=cF Tryz.f229 [259,131331,771,1795,3843,3843,0x800000f03,7939,0x200000001f03,7939,3843,3843]
theorem aEj:aD Go.Proofs.Tryz.prog (fun _=>true) aLu 229=true:=by decide+kernel
noncomputable def aLv:aQ:=cF Tryz.f230 [15,1035,3083,7179,15371,31753,0x400007c09,0x1000007809,30729,30729,30729,10240,0x80000000002000,0x280000000002000,768,0x1000000000002000,768,768]
theorem aEk:aD Go.Proofs.Tryz.prog (fun _=>true) aLv 230=true:=by decide+kernel
noncomputable def aLw:aQ:=cF Tryz.f231 [261,769,769,33537,769,769,769]
theorem aEl:aD Go.Proofs.Tryz.prog (fun _=>true) aLw 231=true:=by decide+kernel
noncomputable def aLx:aQ:=cF Tryz.f232 [15,527,1551,1551,67087,1551,0x100000060f,1551,0x2000000060f,256,0x20000000060f,256,1551,0x2000000000000060f,3599,3599,0x200000000000000e0f,0x1000000000000000000e0f,3599,3599,0x10000000000000000000000060f,5647,5647,0x200000000000000000000000160f,0x1000000000000000000000000000160f,5647,5647,1551,256]
theorem aEm:aD Go.Proofs.Tryz.prog (fun _=>true) aLx 232=true:=by decide+kernel
noncomputable def aLy:aQ:=cF Tryz.f233 [31,23,6163,6163,6163,0x800000001813,6163,6163,0x20000000000001813,6163,0x400000000000001813,6163,6163,6163,1024]
theorem aEn:aD Go.Proofs.Tryz.prog (fun _=>true) aLy 233=true:=by decide+kernel
noncomputable def aLz:aQ:=cF Tryz.f234 [31,23,12307,12307,0x800000003013,12307,12307,0x40000000000003013,12307,0x800000000000003013,8192,3072,12307,12307,12307,12307,12307,0x1000000000000000000000000003013,12307,12307,0x80000000000000000000000000000003013,12307,0x1000000000000000000000000000000003013,12307,12307,12307,8192,3072]
theorem aEo:aD Go.Proofs.Tryz.prog (fun _=>true) aLz 234=true:=by decide+kernel
noncomputable def aLA:aQ:=cF Tryz.f235 [5,21,1,5,261,5,5,4]
theorem aEp:aD Go.Proofs.Tryz.prog (fun _=>true) aLA 235=true:=by decide+kernel
noncomputable def aLB:aQ:=cF Tryz.f236 [5,21,1,5,261,5,5,16389,5,5,4]
theorem aEq:aD Go.Proofs.Tryz.prog (fun _=>true) aLB 236=true:=by decide+kernel
noncomputable def aLC:aQ:=cF Tryz.f237 [6,14,6156,6156,14348,6188,6380,6572,0x200019ac,6572,0x10000019ac,6540,7948,6156,6156,4]
theorem aEr:aD Go.Proofs.Tryz.prog (fun _=>true) aLC 237=true:=by decide+kernel
noncomputable def aLD:aQ:=cF Tryz.f238 [78,0x100004c,192,328,0x200000140,320,192]
theorem aEs:aD Go.Proofs.Tryz.prog (fun _=>true) aLD 238=true:=by decide+kernel
noncomputable def aLE:aQ:=cF Tryz.f257 [19,275,48,83,48]
theorem aEt:aD Go.Proofs.Tryz.prog (fun _=>true) aLE 257=true:=by decide+kernel
noncomputable def aEu:aQ:=cF Tryz.f258 [3,16]
theorem aEv:aD Go.Proofs.Tryz.prog (fun _=>true) aEu 258=true:=by decide+kernel
noncomputable def aEw:aQ:=cF Tryz.f259 [7,131077,16,0,16]
theorem aEx:aD Go.Proofs.Tryz.prog (fun _=>true) aEw 259=true:=by decide+kernel
noncomputable def aLF:aQ:=cF Tryz.f260 [3,16]
theorem aEy:aD Go.Proofs.Tryz.prog (fun _=>true) aLF 260=true:=by decide+kernel
noncomputable def aLG:aQ:=cF Tryz.f261 [6,70,4166,48,384,0x400080,48,48]
theorem aEz:aD Go.Proofs.Tryz.prog (fun _=>true) aLG 261=true:=by decide+kernel
noncomputable def aLH:aQ:=cF Tryz.f262 [7,7,65543,64,135,129,1,64]
theorem aEA:aD Go.Proofs.Tryz.prog (fun _=>true) aLH 262=true:=by decide+kernel
noncomputable def aLI:aQ:=cF Tryz.f263 [3,64,48]
theorem aEB:aD Go.Proofs.Tryz.prog (fun _=>true) aLI 263=true:=by decide+kernel
noncomputable def aLJ:aQ:=cF Tryz.f264 [12,76,1100,48,48]
theorem aEC:aD Go.Proofs.Tryz.prog (fun _=>true) aLJ 264=true:=by decide+kernel
noncomputable def aLK:aQ:=cF Tryz.f265 [42,0]
theorem aED:aD Go.Proofs.Tryz.prog (fun _=>true) aLK 265=true:=by decide+kernel
noncomputable def aLL:aQ:=cF Tryz.f266 [3,387,387,899,419,65955,16,387,16]
theorem aEE:aD Go.Proofs.Tryz.prog (fun _=>true) aLL 266=true:=by decide+kernel
noncomputable def aLM:aQ:=cF Tryz.f267 [1,17,12]
theorem aEF:aD Go.Proofs.Tryz.prog (fun _=>true) aLM 267=true:=by decide+kernel
noncomputable def aA5:aQ:=cF Tryz.f268 [6,4]
theorem aEG:aD Go.Proofs.Tryz.prog (fun _=>true) aA5 268=true:=by decide+kernel
noncomputable def aLN:aQ:=cF Tryz.f269 [28,220,65756,48,0x10001c,48,284,272,48]
theorem aEH:aD Go.Proofs.Tryz.prog (fun _=>true) aLN 269=true:=by decide+kernel
noncomputable def aLO:aQ:=cF Tryz.f270 [1053,1053,3101,265245,0x10000000c1d,3101,0x400000000000c1d,2077,1053]
theorem aEI:aD Go.Proofs.Tryz.prog (fun _=>true) aLO 270=true:=by decide+kernel
noncomputable def aLP:aQ:=cF Tryz.f271 [1,4]
theorem aEJ:aD Go.Proofs.Tryz.prog (fun _=>true) aLP 271=true:=by decide+kernel
noncomputable def aLQ:aQ:=cF Tryz.f272 [1,1,1,1,4]
theorem aEK:aD Go.Proofs.Tryz.prog (fun _=>true) aLQ 272=true:=by decide+kernel
noncomputable def aLR:aQ:=cF Tryz.f273 [15,256]
theorem aEL:aD Go.Proofs.Tryz.prog (fun _=>true) aLR 273=true:=by decide+kernel
noncomputable def aLS:aQ:=cF Tryz.f274 [63,63,55,4,4096]
theorem aEM:aD Go.Proofs.Tryz.prog (fun _=>true) aLS 274=true:=by decide+kernel
noncomputable def aLT:aQ:=cF Tryz.f285 [113,0x2000071,192,0x8000070,192,192]
theorem aEN:aD Go.Proofs.Tryz.prog (fun _=>true) aLT 285=true:=by decide+kernel
noncomputable def aEO:aQ:=cF Tryz.f286 [3,387,387,899,419,65955,16,387,16]
theorem aEP:aD Go.Proofs.Tryz.prog (fun _=>true) aEO 286=true:=by decide+kernel
noncomputable def aLU:aQ:=cF Tryz.f287 [3,387,387,899,419,65955,16,387,16]
theorem aEQ:aD Go.Proofs.Tryz.prog (fun _=>true) aLU 287=true:=by decide+kernel
noncomputable def aLV:aQ:=cF Tryz.f288 [7,263,1799,1799,132871,3847,0x80000f07,1799,1799,192]
theorem aER:aD Go.Proofs.Tryz.prog (fun _=>true) aLV 288=true:=by decide+kernel
noncomputable def aLW:aQ:=cF Tryz.f289 [6,16]
theorem aES:aD Go.Proofs.Tryz.prog (fun _=>true) aLW 289=true:=by decide+kernel
noncomputable def aLX:aQ:=cF Tryz.f291 [3,16]
theorem aET:aD Go.Proofs.Tryz.prog (fun _=>true) aLX 291=true:=by decide+kernel
noncomputable def aLY:aQ:=cF Tryz.f292 [31,0x40000e,6,3072,3072]
theorem aEU:aD Go.Proofs.Tryz.prog (fun _=>true) aLY 292=true:=by decide+kernel
end Go.Proofs.YtfejhjllooomlaaGreat
