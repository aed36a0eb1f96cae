/- The seat's functions as the logical machine runs them (reckoned), and the look at each of them. Printed by a program. -/
import Derived.Test.YtfejhjllooomlaaGreatFVm2
import Derived.Test.YtfejhjllooomlaaGreatProg
set_option maxRecDepth 100000
namespace Go.Proofs.YtfejhjllooomlaaGreat
open Go.Vm
abbrev md:FuncId->CM:=aOh [55,115,177] [219,258,268,286] [67,212,220,262,265]
abbrev mdX (l:List FuncId) (f:FuncId):CM:=bif has l f then .pur else md f
noncomputable abbrev cF (fn:Go.Func) (ks:List Nat):aQ:=aMg Go.Proofs.Tryz.prog fn ⟨md,ks,[],[]⟩
noncomputable abbrev cG (fn:Go.Func) (m:FuncId->CM) (ks:List Nat) (a:List (Nat×List (Nat×Nat))) (b:List (Nat×List (Nat×Option Nat))):aQ:=aMg Go.Proofs.Tryz.prog fn ⟨m,ks,a,b⟩
noncomputable def x3:aQ:=cF Tryz.f3 [56,184,0x400000000000b8,64,1976,16288,0x800000000000003fa0,64,120704,64]
theorem aMo:aF Go.Proofs.Tryz.prog (fun _=>true) x3 3=true:=by decide+kernel
noncomputable def x10:aQ:=cF Tryz.f10 [0,6,62,510,2046,1]
theorem aHD:aF Go.Proofs.Tryz.prog (fun _=>true) x10 10=true:=by decide+kernel
noncomputable def x11:aQ:=cF Tryz.f11 [2,4]
theorem aHE:aF Go.Proofs.Tryz.prog (fun _=>true) x11 11=true:=by decide+kernel
noncomputable def x12:aQ:=cF Tryz.f12 [2,4]
theorem aHF:aF Go.Proofs.Tryz.prog (fun _=>true) x12 12=true:=by decide+kernel
noncomputable def x13:aQ:=cF Tryz.f13 [2,524290,4,10,10,0x100000a,0x100000000a,4,26,26,0x800000001a,0x1000000000001a,4,26,10,0x800000000000000,4,4]
theorem aHG:aF Go.Proofs.Tryz.prog (fun _=>true) x13 13=true:=by decide+kernel
noncomputable def x14:aQ:=cF Tryz.f14 [12,140,16,16]
theorem aHH:aF Go.Proofs.Tryz.prog (fun _=>true) x14 14=true:=by decide+kernel
noncomputable def x15:aQ:=cF Tryz.f15 [12,96,0x200060,0x4000000,16,16,0x20000060,16,16]
theorem aHI:aF Go.Proofs.Tryz.prog (fun _=>true) x15 15=true:=by decide+kernel
noncomputable def x16:aQ:=cG Tryz.f16 md [28,156,524444,112,0x100001c,112,284,0x80000001c,112,1052,1052,15388,0x200000003c1c,0x800000003c1c,112,1052,50196,112] [(0,[(10,2)])] []
theorem aHJ:aF Go.Proofs.Tryz.prog (fun _=>true) x16 16=true:=by decide+kernel
noncomputable def x17:aQ:=cF Tryz.f17 [12,16]
theorem aHK:aF Go.Proofs.Tryz.prog (fun _=>true) x17 17=true:=by decide+kernel
noncomputable def x18:aQ:=cF Tryz.f18 [3,1027,16,35,35,16419,0x2000023,16,35,16]
theorem aHL:aF Go.Proofs.Tryz.prog (fun _=>true) x18 18=true:=by decide+kernel
noncomputable def x19:aQ:=cF Tryz.f19 [2,258,4,10,10,8202,0x40000a,4,10,18,18,0x8000012,0x80000000012,4,18,4]
theorem aHM:aF Go.Proofs.Tryz.prog (fun _=>true) x19 19=true:=by decide+kernel
noncomputable def x20:aQ:=cG Tryz.f20 md [28,220,262364,48,348,0x1c0015c,0x1c0015c,0x3c0015c,0x1c0075c,0x1c0035c,0x1c0015c,0x1c0015c,400,48] [] [(0,[(8,some 12001)])]
theorem aHN:aF Go.Proofs.Tryz.prog (fun _=>true) x20 20=true:=by decide+kernel
noncomputable def x21:aQ:=cF Tryz.f21 [12,4108,16,44,44,131116,0x4000002c,16,44,16]
theorem aHO:aF Go.Proofs.Tryz.prog (fun _=>true) x21 21=true:=by decide+kernel
noncomputable def x23:aQ:=cF Tryz.f23 [2,18,274,12,8194,12,12]
theorem aHP:aF Go.Proofs.Tryz.prog (fun _=>true) x23 23=true:=by decide+kernel
noncomputable def x26:aQ:=cF Tryz.f26 [2,0x100000,4,4]
theorem aHQ:aF Go.Proofs.Tryz.prog (fun _=>true) x26 26=true:=by decide+kernel
noncomputable def x30:aQ:=cF Tryz.f30 [56,64]
theorem aHR:aF Go.Proofs.Tryz.prog (fun _=>true) x30 30=true:=by decide+kernel
noncomputable def x40:aQ:=cF Tryz.f40 [6,38,38,1062,0x100026,16,38,16]
theorem aHS:aF Go.Proofs.Tryz.prog (fun _=>true) x40 40=true:=by decide+kernel
noncomputable def x44:aQ:=cF Tryz.f44 [2,0x40000000,4,4]
theorem aHT:aF Go.Proofs.Tryz.prog (fun _=>true) x44 44=true:=by decide+kernel
noncomputable def x49:aQ:=cF Tryz.f49 [1,1]
theorem aHU:aF Go.Proofs.Tryz.prog (fun _=>true) x49 49=true:=by decide+kernel
noncomputable def x50:aQ:=cF Tryz.f50 [5,4]
theorem aHV:aF Go.Proofs.Tryz.prog (fun _=>true) x50 50=true:=by decide+kernel
noncomputable def x51:aQ:=cF Tryz.f51 [3,1027,16,35,35,16419,0x2000023,16,35,16]
theorem aHW:aF Go.Proofs.Tryz.prog (fun _=>true) x51 51=true:=by decide+kernel
noncomputable def x52:aQ:=cF Tryz.f52 [2,4]
theorem aHX:aF Go.Proofs.Tryz.prog (fun _=>true) x52 52=true:=by decide+kernel
noncomputable def x53:aQ:=cF Tryz.f53 [2,0x100000000000002,4,10,26,26,0x400000000000001a,58,250,0x40000000000000000007a,0x400000000000000000000007a,4,890,0x2000000000000000000000000000001a,4,26,26,0x1000000000000000000000000000000000,4,4]
theorem aHY:aF Go.Proofs.Tryz.prog (fun _=>true) x53 53=true:=by decide+kernel
noncomputable def x54:aQ:=cF Tryz.f54 [6,4102,16,38,38,65574,0x4000000026,16,38,16]
theorem aHZ:aF Go.Proofs.Tryz.prog (fun _=>true) x54 54=true:=by decide+kernel
noncomputable def x55:aQ:=cG Tryz.f55 md [1,9,25,25,281,25,25,4] [(0,[(3,2)])] []
theorem aH0:aF Go.Proofs.Tryz.prog (fun _=>true) x55 55=true:=by decide+kernel
noncomputable def x56:aQ:=cF Tryz.f56 [19,51,48,16]
theorem aH1:aF Go.Proofs.Tryz.prog (fun _=>true) x56 56=true:=by decide+kernel
noncomputable def x57:aQ:=cF Tryz.f57 [2,1026,4,4096,4,4]
theorem aH2:aF Go.Proofs.Tryz.prog (fun _=>true) x57 57=true:=by decide+kernel
noncomputable def x58:aQ:=cF Tryz.f58 [12,524,16384,16,16,524300,0x1000000,16,16,16]
theorem aH3:aF Go.Proofs.Tryz.prog (fun _=>true) x58 58=true:=by decide+kernel
noncomputable def x59:aQ:=cF Tryz.f59 [2,0x400002,4,0x1c000002,0x1c000002,0x3c000002,0x1c000012,0x201c000002,4,0x1c000002,34,0x2000000000022,4,0xe0000000000022,0xe0000000000022,0x1e0000000000022,0xe00000000000a2,0x800000e0000000000022,4,0xe0000000000022,4]
theorem aH4:aF Go.Proofs.Tryz.prog (fun _=>true) x59 59=true:=by decide+kernel
noncomputable def x60:aQ:=cF Tryz.f60 [2,0x100000,4,4]
theorem aH5:aF Go.Proofs.Tryz.prog (fun _=>true) x60 60=true:=by decide+kernel
noncomputable def x61:aQ:=cF Tryz.f61 [12,76,4172,48,0x10000c,48,132,0x8000000080,128,48]
theorem aH6:aF Go.Proofs.Tryz.prog (fun _=>true) x61 61=true:=by decide+kernel
noncomputable def x62:aQ:=cF Tryz.f62 [60,1716,0x10006b4,112,2736,15024,2736,3760,112]
theorem aH7:aF Go.Proofs.Tryz.prog (fun _=>true) x62 62=true:=by decide+kernel
noncomputable def x63:aQ:=cF Tryz.f63 [28,220,524444,156,0x20009c,48,280,272,48]
theorem aH8:aF Go.Proofs.Tryz.prog (fun _=>true) x63 63=true:=by decide+kernel
noncomputable def x65:aQ:=cF Tryz.f65 [12,0x8000000000c,16,44,44,0x100000000002c,0x200000000000002c,16,44,16]
theorem aH9:aF Go.Proofs.Tryz.prog (fun _=>true) x65 65=true:=by decide+kernel
noncomputable def x66:aQ:=cF Tryz.f66 [28,92,8284,48,156,524444,48,796,48]
theorem aIa:aF Go.Proofs.Tryz.prog (fun _=>true) x66 66=true:=by decide+kernel
noncomputable def x67:aQ:=cF Tryz.f67 [60,60,0x100003c,60,60]
theorem aIb:aF Go.Proofs.Tryz.prog (fun _=>true) x67 67=true:=by decide+kernel
noncomputable def x68:aQ:=cF Tryz.f68 [92,229468,229468,491612,229980,0x203825c,229468,229468,92,0x1000000005c,1100,0x100000000044c,192,0x38000000000048,0x38000000000048,0x78000000000048,0x38000000001048,0x2038000000001048,0x38000000000448,0x400038000000000448,192,0x38000000000048,192]
theorem aIc:aF Go.Proofs.Tryz.prog (fun _=>true) x68 68=true:=by decide+kernel
noncomputable def x69:aQ:=cG Tryz.f69 md [1,9,25,25,281,25,25,4] [(0,[(3,2)])] []
theorem aId:aF Go.Proofs.Tryz.prog (fun _=>true) x69 69=true:=by decide+kernel
noncomputable def x70:aQ:=cF Tryz.f70 [56,152,8344,64,0x100018,64,64]
theorem aIe:aF Go.Proofs.Tryz.prog (fun _=>true) x70 70=true:=by decide+kernel
noncomputable def x72:aQ:=cF Tryz.f72 [3,3,67,3,16]
theorem aIf:aF Go.Proofs.Tryz.prog (fun _=>true) x72 72=true:=by decide+kernel
noncomputable def x73:aQ:=cF Tryz.f73 [1,17,4,4]
theorem aIg:aF Go.Proofs.Tryz.prog (fun _=>true) x73 73=true:=by decide+kernel
noncomputable def x83:aQ:=cF Tryz.f83 [3,387,387,899,419,65955,16,387,16]
theorem aIh:aF Go.Proofs.Tryz.prog (fun _=>true) x83 83=true:=by decide+kernel
noncomputable def x87:aQ:=cF Tryz.f87 [2,2050,4,57346,57346,122882,57362,57378,0x40e022,4,57346,0x1c000002,0x1c000002,0x3c000002,0x1c0000c2,0x40001c000002,4,0x1c000002,4]
theorem aIi:aF Go.Proofs.Tryz.prog (fun _=>true) x87 87=true:=by decide+kernel
noncomputable def x88:aQ:=cF Tryz.f88 [2,10,0x800000,4,4]
theorem aIj:aF Go.Proofs.Tryz.prog (fun _=>true) x88 88=true:=by decide+kernel
noncomputable def x89:aQ:=cF Tryz.f89 [6,48]
theorem aIk:aF Go.Proofs.Tryz.prog (fun _=>true) x89 89=true:=by decide+kernel
noncomputable def x92:aQ:=cF Tryz.f92 [6,70,4166,48,384,0x200080,48,48]
theorem aIl:aF Go.Proofs.Tryz.prog (fun _=>true) x92 92=true:=by decide+kernel
noncomputable def x94:aQ:=cF Tryz.f94 [2,4]
theorem aIm:aF Go.Proofs.Tryz.prog (fun _=>true) x94 94=true:=by decide+kernel
noncomputable def x95:aQ:=cF Tryz.f95 [2,4]
theorem aIn:aF Go.Proofs.Tryz.prog (fun _=>true) x95 95=true:=by decide+kernel
noncomputable def x96:aQ:=cF Tryz.f96 [2,524290,4,10,10,0x100000a,26,0x800000000000001a,4,58,58,0x4000000000000003a,0x2000000000000000003a,4,58,10,4]
theorem aIo:aF Go.Proofs.Tryz.prog (fun _=>true) x96 96=true:=by decide+kernel
noncomputable def x97:aQ:=cF Tryz.f97 [12,44,44,1068,0x40000002c,16,44,16]
theorem aIp:aF Go.Proofs.Tryz.prog (fun _=>true) x97 97=true:=by decide+kernel
noncomputable def x98:aQ:=cF Tryz.f98 [2,32770,4,10,10,0x10000a,26,0x2000000001a,4,58,58,0x10000000003a,0x8000000000003a,4,58,10,66,66,0x1000000000000042,0x8000000000000000042,4,66,4]
theorem aIq:aF Go.Proofs.Tryz.prog (fun _=>true) x98 98=true:=by decide+kernel
noncomputable def x99:aQ:=cF Tryz.f99 [120,192]
theorem aIr:aF Go.Proofs.Tryz.prog (fun _=>true) x99 99=true:=by decide+kernel
noncomputable def aIs:aQ:=cF Tryz.f100 [28,284,48,16412,48,48]
theorem aBu:aF Go.Proofs.Tryz.prog (fun _=>true) aIs 100=true:=by decide+kernel
noncomputable def aIt:aQ:=cF Tryz.f101 [12,44,44,1068,0x10002c,16,44,16]
theorem aBv:aF Go.Proofs.Tryz.prog (fun _=>true) aIt 101=true:=by decide+kernel
noncomputable def aIu:aQ:=cF Tryz.f102 [19,496,1008,1776,3760,16]
theorem aBw:aF Go.Proofs.Tryz.prog (fun _=>true) aIu 102=true:=by decide+kernel
noncomputable def aIv:aQ:=cF Tryz.f103 [2,0x7000002,0x7000002,0xf000002,0x7000012,0x87000002,4,0x7000002,0x800000000002,4,34,0x70000000000022,0x70000000000022,0xf0000000000022,0x700000000000a2,0x700000000007a2,0x4000700000000003a2,4,0x10000700000000001a2,0x10000000700000000001a2,4,0x700000000009a2,0x40000000000000000070000000000022,4,0x70000000000022,0x70000000000022,0x1000000000000000000000000000000000,4,4]
theorem aBx:aF Go.Proofs.Tryz.prog (fun _=>true) aIv 103=true:=by decide+kernel
noncomputable def aIw:aQ:=cF Tryz.f104 [3,16]
theorem aBy:aF Go.Proofs.Tryz.prog (fun _=>true) aIw 104=true:=by decide+kernel
noncomputable def aIx:aQ:=cF Tryz.f105 [9,16]
theorem aBz:aF Go.Proofs.Tryz.prog (fun _=>true) aIx 105=true:=by decide+kernel
noncomputable def aIy:aQ:=cF Tryz.f106 [60,568,2592,8192,256]
theorem aBA:aF Go.Proofs.Tryz.prog (fun _=>true) aIy 106=true:=by decide+kernel
noncomputable def aIz:aQ:=cF Tryz.f107 [3,3,67,3,16]
theorem aBB:aF Go.Proofs.Tryz.prog (fun _=>true) aIz 107=true:=by decide+kernel
noncomputable def aIA:aQ:=cF Tryz.f108 [1,17,4,4]
theorem aBC:aF Go.Proofs.Tryz.prog (fun _=>true) aIA 108=true:=by decide+kernel
noncomputable def aIB:aQ:=cF Tryz.f109 [12,16]
theorem aBD:aF Go.Proofs.Tryz.prog (fun _=>true) aIB 109=true:=by decide+kernel
noncomputable def aIC:aQ:=cF Tryz.f110 [3,35,99,2115,4096,16,16,8195,16,65539,16,524288,16,16]
theorem aBE:aF Go.Proofs.Tryz.prog (fun _=>true) aIC 110=true:=by decide+kernel
noncomputable def aID:aQ:=cF Tryz.f111 [12,44,4140,16,16]
theorem aBF:aF Go.Proofs.Tryz.prog (fun _=>true) aID 111=true:=by decide+kernel
noncomputable def aIE:aQ:=cF Tryz.f112 [19,115,16]
theorem aBG:aF Go.Proofs.Tryz.prog (fun _=>true) aIE 112=true:=by decide+kernel
noncomputable def aIF:aQ:=cF Tryz.f113 [124,884,0x1000274,628,0x4000274,240,1140,7792,0x200000001e70,240,7280,240]
theorem aBH:aF Go.Proofs.Tryz.prog (fun _=>true) aIF 113=true:=by decide+kernel
noncomputable def aIG:aQ:=cF Tryz.f114 [12,76,524364,48,140,0x2000000c,48,1544,0x2000000208,48,2048,48]
theorem aBI:aF Go.Proofs.Tryz.prog (fun _=>true) aIG 114=true:=by decide+kernel
noncomputable def aIH:aQ:=cF Tryz.f115 [6,6,6,14,6,4]
theorem aBJ:aF Go.Proofs.Tryz.prog (fun _=>true) aIH 115=true:=by decide+kernel
noncomputable def aII:aQ:=cF Tryz.f116 [12,524300,16,44,44,0x100002c,0x200000002c,16,44,16]
theorem aBK:aF Go.Proofs.Tryz.prog (fun _=>true) aII 116=true:=by decide+kernel
noncomputable def aIJ:aQ:=cF Tryz.f117 [12,0x1000000c,16,44,44,0x20000002c,0x40000000002c,16,44,16]
theorem aBL:aF Go.Proofs.Tryz.prog (fun _=>true) aIJ 117=true:=by decide+kernel
noncomputable def aIK:aQ:=cF Tryz.f118 [5,53,4149,12,12]
theorem aBM:aF Go.Proofs.Tryz.prog (fun _=>true) aIK 118=true:=by decide+kernel
noncomputable def aIL:aQ:=cF Tryz.f119 [22,86,8278,48,656,48]
theorem aBN:aF Go.Proofs.Tryz.prog (fun _=>true) aIL 119=true:=by decide+kernel
noncomputable def aIM:aQ:=cF Tryz.f120 [3,1027,16,12291,12291,28675,12323,0x1003003,16,12291,16]
theorem aBO:aF Go.Proofs.Tryz.prog (fun _=>true) aIM 120=true:=by decide+kernel
noncomputable def aIN:aQ:=cG Tryz.f121 (mdX [115]) [28,92,0x40005c,48,156,0x1000009c,48,0xe0000001c,0xe0000001c,0x1e0000001c,0xe0000021c,0x40000e0000001c,48,0xe0000001c,1052,1052,0x38000000000000041c,0x38000000000000041c,0x78000000000000041c,0x38000000000000141c,0x38000000000000f41c,0x38000000000003f41c,0x8000038000000000003f41c,0x38000000000001841c,0x38000000000000841c,0x100000000000038000000000003b41c,0x38000000000004341c,0x38000000000004341c,0x38000000000004841c,0x38000000000000841c,0x80000000000000000038000000000001841c,0x38000000000000841c,0x1000000000000000000000038000000000000841c,48,0x38000000000000041c,48] [] [(1,[(10,some 11003)])]
theorem aBP:aF Go.Proofs.Tryz.prog (fun _=>true) aIN 121=true:=by decide+kernel
noncomputable def aIO:aQ:=cF Tryz.f122 [3,16]
theorem aBQ:aF Go.Proofs.Tryz.prog (fun _=>true) aIO 122=true:=by decide+kernel
noncomputable def aIP:aQ:=cF Tryz.f123 [6,8]
theorem aBR:aF Go.Proofs.Tryz.prog (fun _=>true) aIP 123=true:=by decide+kernel
noncomputable def aIQ:aQ:=cF Tryz.f124 [28,156,412,0x20019c,112,3740,0x2000000e9c,112,0x800000000000e9c,112,0x40000000000000e9c,112,5788,5276,31892,0x10000000000000000007c94,112,0x800000000000000000003494,234640,0x400000000000000000000039490,112,5136,112]
theorem aBS:aF Go.Proofs.Tryz.prog (fun _=>true) aIQ 124=true:=by decide+kernel
noncomputable def aIR:aQ:=cF Tryz.f125 [56,64]
theorem aBT:aF Go.Proofs.Tryz.prog (fun _=>true) aIR 125=true:=by decide+kernel
noncomputable def aIS:aQ:=cF Tryz.f128 [56,312,16696,192,192]
theorem aBU:aF Go.Proofs.Tryz.prog (fun _=>true) aIS 128=true:=by decide+kernel
noncomputable def aIT:aQ:=cF Tryz.f131 [28,92,4188,48,524316,48,48]
theorem aBV:aF Go.Proofs.Tryz.prog (fun _=>true) aIT 131=true:=by decide+kernel
noncomputable def aIU:aQ:=cF Tryz.f139 [22,212,32980,48,48]
theorem aBW:aF Go.Proofs.Tryz.prog (fun _=>true) aIU 139=true:=by decide+kernel
noncomputable def aIV:aQ:=cF Tryz.f148 [1,4]
theorem aBX:aF Go.Proofs.Tryz.prog (fun _=>true) aIV 148=true:=by decide+kernel
noncomputable def aIW:aQ:=cF Tryz.f149 [7,263,1799,1799,132871,3847,0x80000f07,1799,1799,192]
theorem aBY:aF Go.Proofs.Tryz.prog (fun _=>true) aIW 149=true:=by decide+kernel
noncomputable def aIX:aQ:=cF Tryz.f150 [6,16]
theorem aBZ:aF Go.Proofs.Tryz.prog (fun _=>true) aIX 150=true:=by decide+kernel
noncomputable def aIY:aQ:=cF Tryz.f151 [3,35,99,2115,4096,16,16,8195,16,65539,16,524288,16,16]
theorem aB0:aF Go.Proofs.Tryz.prog (fun _=>true) aIY 151=true:=by decide+kernel
noncomputable def aIZ:aQ:=cF Tryz.f154 [2,4]
theorem aB1:aF Go.Proofs.Tryz.prog (fun _=>true) aIZ 154=true:=by decide+kernel
noncomputable def aI0:aQ:=cF Tryz.f155 [2,4]
theorem aB2:aF Go.Proofs.Tryz.prog (fun _=>true) aI0 155=true:=by decide+kernel
noncomputable def aI1:aQ:=cF Tryz.f156 [2,10,0x2000000a,4,26,58,58,0x100000003a,0x800000000000003a,4,58,58,90,90,0x200000000000000005a,0x10000000000000000000000000005a,4,90,4]
theorem aB3:aF Go.Proofs.Tryz.prog (fun _=>true) aI1 156=true:=by decide+kernel
noncomputable def aI2:aQ:=cF Tryz.f157 [2,10,0x400000a,4,26,26,0x2000001a,0x400000001a,0x10000000001a,4,58,0x20000000000000000001a,4,26,4]
theorem aB4:aF Go.Proofs.Tryz.prog (fun _=>true) aI2 157=true:=by decide+kernel
noncomputable def aI3:aQ:=cF Tryz.f158 [12,44,16]
theorem aB5:aF Go.Proofs.Tryz.prog (fun _=>true) aI3 158=true:=by decide+kernel
noncomputable def aI4:aQ:=cF Tryz.f159 [120,2168,192,131160,192,192]
theorem aB6:aF Go.Proofs.Tryz.prog (fun _=>true) aI4 159=true:=by decide+kernel
noncomputable def aI5:aQ:=cF Tryz.f160 [12,16]
theorem aB7:aF Go.Proofs.Tryz.prog (fun _=>true) aI5 160=true:=by decide+kernel
noncomputable def aI6:aQ:=cF Tryz.f161 [2,0x100002,4,26,0x380001a,0x380001a,0x780001a,0x380005a,0x800000380004a,4,0x380001a,0x380001a,4]
theorem aB8:aF Go.Proofs.Tryz.prog (fun _=>true) aI6 161=true:=by decide+kernel
noncomputable def aI7:aQ:=cF Tryz.f162 [2,0x1000000002,4,0x1c000000002,0x1c000000002,0x3c000000002,0x1c00000001a,0x801c00000001a,0x2001c000000002,4,0x8000000001c000000002,4,0x1c000000002,34,0x3800000000000000000022,0x3800000000000000000022,0x7800000000000000000022,0x38000000000000000000e2,0x20000038000000000000000000e2,4,0x38000000000000000000e2,0x40000000003800000000000000000022,4,0x3800000000000000000022,4]
theorem aB9:aF Go.Proofs.Tryz.prog (fun _=>true) aI7 162=true:=by decide+kernel
noncomputable def aI8:aQ:=cF Tryz.f163 [120,448]
theorem aCa:aF Go.Proofs.Tryz.prog (fun _=>true) aI8 163=true:=by decide+kernel
noncomputable def aI9:aQ:=cF Tryz.f164 [9,393,393,905,425,65961,16,393,16]
theorem aCb:aF Go.Proofs.Tryz.prog (fun _=>true) aI9 164=true:=by decide+kernel
noncomputable def aJa:aQ:=cF Tryz.f165 [1,4]
theorem aCc:aF Go.Proofs.Tryz.prog (fun _=>true) aJa 165=true:=by decide+kernel
noncomputable def aJb:aQ:=cF Tryz.f166 [3,35,99,2115,4096,16,16,8195,16,65539,16,524288,16,16]
theorem aCd:aF Go.Proofs.Tryz.prog (fun _=>true) aJb 166=true:=by decide+kernel
noncomputable def aJc:aQ:=cF Tryz.f167 [3,67,195,451,963,1987,2755,6851,12995,12931,19,48]
theorem aCe:aF Go.Proofs.Tryz.prog (fun _=>true) aJc 167=true:=by decide+kernel
noncomputable def aJd:aQ:=cF Tryz.f168 [54,950,0x20003b6,112,1462,1334,7476,0x10000000d34,44336,0x8000000000ad30,112,1328,112]
theorem aCf:aF Go.Proofs.Tryz.prog (fun _=>true) aJd 168=true:=by decide+kernel
noncomputable def aJe:aQ:=cF Tryz.f169 [6,22,278,12,16390,12,12]
theorem aCg:aF Go.Proofs.Tryz.prog (fun _=>true) aJe 169=true:=by decide+kernel
noncomputable def aJf:aQ:=cF Tryz.f174 [12,16]
theorem aCh:aF Go.Proofs.Tryz.prog (fun _=>true) aJf 174=true:=by decide+kernel
noncomputable def aJg:aQ:=cF Tryz.f175 [3,1027,16,35,35,16419,0x2000023,16,35,16]
theorem aCi:aF Go.Proofs.Tryz.prog (fun _=>true) aJg 175=true:=by decide+kernel
noncomputable def aJh:aQ:=cF Tryz.f176 [5,2053,12,21,0x300015,0x300015,0x700015,0x300035,0x300015,0x300015,12]
theorem aCj:aF Go.Proofs.Tryz.prog (fun _=>true) aJh 176=true:=by decide+kernel
noncomputable def aJi:aQ:=cF Tryz.f177 [3,1027,3,97,0x4000041,65,129,384,384,0x2000000180,384,16]
theorem aCk:aF Go.Proofs.Tryz.prog (fun _=>true) aJi 177=true:=by decide+kernel
noncomputable def aJj:aQ:=cF Tryz.f178 [22,116,32820,16,16]
theorem aCl:aF Go.Proofs.Tryz.prog (fun _=>true) aJj 178=true:=by decide+kernel
noncomputable def aJk:aQ:=cF Tryz.f179 [3,48]
theorem aCm:aF Go.Proofs.Tryz.prog (fun _=>true) aJk 179=true:=by decide+kernel
noncomputable def aJl:aQ:=cF Tryz.f180 [120,376,524664,192,1640,0x20000668,192,2656,6752,6720,2112,192]
theorem aCn:aF Go.Proofs.Tryz.prog (fun _=>true) aJl 180=true:=by decide+kernel
noncomputable def aJm:aQ:=cF Tryz.f181 [248,760,0x2002f8,448,0x400000f8,448,0x10000000f8,448,7416,0x800000001cf8,448,11504,27840,26816,10432,448]
theorem aCo:aF Go.Proofs.Tryz.prog (fun _=>true) aJm 181=true:=by decide+kernel
noncomputable def aJn:aQ:=cF Tryz.f182 [60,436,65972,112,112]
theorem aCp:aF Go.Proofs.Tryz.prog (fun _=>true) aJn 182=true:=by decide+kernel
noncomputable def aJo:aQ:=cF Tryz.f183 [3,387,387,899,419,65955,16,387,16]
theorem aCq:aF Go.Proofs.Tryz.prog (fun _=>true) aJo 183=true:=by decide+kernel
noncomputable def aJp:aQ:=cF Tryz.f184 [5,28]
theorem aCr:aF Go.Proofs.Tryz.prog (fun _=>true) aJp 184=true:=by decide+kernel
noncomputable def aJq:aQ:=cF Tryz.f185 [28,156,4252,112,131100,112,0x40001c,112,0x10000001c,112,276,112]
theorem aCs:aF Go.Proofs.Tryz.prog (fun _=>true) aJq 185=true:=by decide+kernel
noncomputable def aJr:aQ:=cF Tryz.f186 [28,4124,52,0x40000030,48,16,0x800000001c,84,80,16,152,144,16]
theorem aCt:aF Go.Proofs.Tryz.prog (fun _=>true) aJr 186=true:=by decide+kernel
noncomputable def aJs:aQ:=cF Tryz.f189 [56,152,65688,64,0x400000,64,64]
theorem aCu:aF Go.Proofs.Tryz.prog (fun _=>true) aJs 189=true:=by decide+kernel
noncomputable def aJt:aQ:=cF Tryz.f190 [56,152,0x10000098,0x80000000,64,64,64]
theorem aCv:aF Go.Proofs.Tryz.prog (fun _=>true) aJt 190=true:=by decide+kernel
noncomputable def aJu:aQ:=cF Tryz.f192 [19,275,48,83,48]
theorem aCw:aF Go.Proofs.Tryz.prog (fun _=>true) aJu 192=true:=by decide+kernel
noncomputable def aJv:aQ:=cF Tryz.f194 [1,9,456,456,968,488,16872,4,456,4]
theorem aCx:aF Go.Proofs.Tryz.prog (fun _=>true) aJv 194=true:=by decide+kernel
noncomputable def aJw:aQ:=cF Tryz.f203 [1,4]
theorem aCy:aF Go.Proofs.Tryz.prog (fun _=>true) aJw 203=true:=by decide+kernel
noncomputable def aJx:aQ:=cF Tryz.f205 [28,48,16]
theorem aCz:aF Go.Proofs.Tryz.prog (fun _=>true) aJx 205=true:=by decide+kernel
noncomputable def aJy:aQ:=cF Tryz.f206 [2,4]
theorem aCA:aF Go.Proofs.Tryz.prog (fun _=>true) aJy 206=true:=by decide+kernel
noncomputable def aJz:aQ:=cF Tryz.f207 [2,10,0x80000a,4,26,50,0x800000002,4,0xe000000002,0xe000000002,0x1e000000002,0xe0000000c2,0x100000e000000002,4,0xe000000002,4]
theorem aCB:aF Go.Proofs.Tryz.prog (fun _=>true) aJz 207=true:=by decide+kernel
noncomputable def aJA:aQ:=cF Tryz.f208 [12,44,16]
theorem aCC:aF Go.Proofs.Tryz.prog (fun _=>true) aJA 208=true:=by decide+kernel
noncomputable def aJB:aQ:=cF Tryz.f209 [120,632,131704,448,0x1000078,448,0x40000058,448,3136,448]
theorem aCD:aF Go.Proofs.Tryz.prog (fun _=>true) aJB 209=true:=by decide+kernel
noncomputable def aJC:aQ:=cF Tryz.f210 [1,4]
theorem aCE:aF Go.Proofs.Tryz.prog (fun _=>true) aJC 210=true:=by decide+kernel
noncomputable def aJD:aQ:=cF Tryz.f211 [54,436,65972,112,112]
theorem aCF:aF Go.Proofs.Tryz.prog (fun _=>true) aJD 211=true:=by decide+kernel
noncomputable def aJE:aQ:=cF Tryz.f212 [7,7,65543,64,135,129,1,64]
theorem aCG:aF Go.Proofs.Tryz.prog (fun _=>true) aJE 212=true:=by decide+kernel
noncomputable def aJF:aQ:=cF Tryz.f213 [3,1027,16,35,35,16419,0x2000023,16,35,16]
theorem aCH:aF Go.Proofs.Tryz.prog (fun _=>true) aJF 213=true:=by decide+kernel
noncomputable def aJG:aQ:=cF Tryz.f214 [3,192,48,768,48]
theorem aCI:aF Go.Proofs.Tryz.prog (fun _=>true) aJG 214=true:=by decide+kernel
noncomputable def aJH:aQ:=cF Tryz.f215 [6,16]
theorem aCJ:aF Go.Proofs.Tryz.prog (fun _=>true) aJH 215=true:=by decide+kernel
noncomputable def aJI:aQ:=cF Tryz.f216 [7,263,1799,1799,132871,3847,0x80000f07,1799,1799,192]
theorem aCK:aF Go.Proofs.Tryz.prog (fun _=>true) aJI 216=true:=by decide+kernel
noncomputable def aJJ:aQ:=cF Tryz.f217 [6,16]
theorem aCL:aF Go.Proofs.Tryz.prog (fun _=>true) aJJ 217=true:=by decide+kernel
noncomputable def aJK:aQ:=cF Tryz.f218 [12,76,4172,48,396,0x400000c,48,48]
theorem aCM:aF Go.Proofs.Tryz.prog (fun _=>true) aJK 218=true:=by decide+kernel
noncomputable def XJ:aQ:=cF Tryz.f219 [6,6,4]
theorem aCN:aF Go.Proofs.Tryz.prog (fun _=>true) XJ 219=true:=by decide+kernel
noncomputable def aJL:aQ:=cF Tryz.f220 [42,42,0x10002a,42,42,106,106,0x2000000006a,0x2000000000000006a,106,0x800000000000000006a,104,42,106,0]
theorem aCO:aF Go.Proofs.Tryz.prog (fun _=>true) aJL 220=true:=by decide+kernel
noncomputable def aJM:aQ:=cF Tryz.f221 [3,16]
theorem aCP:aF Go.Proofs.Tryz.prog (fun _=>true) aJM 221=true:=by decide+kernel
noncomputable def aJN:aQ:=cF Tryz.f222 [6,8]
theorem aCQ:aF Go.Proofs.Tryz.prog (fun _=>true) aJN 222=true:=by decide+kernel
noncomputable def aJO:aQ:=cF Tryz.f223 [14,46,4142,28,524302,28,206,0x2000000ce,28,460,396,396,28]
theorem aCR:aF Go.Proofs.Tryz.prog (fun _=>true) aJO 223=true:=by decide+kernel
noncomputable def aJP:aQ:=cF Tryz.f224 [54,182,950,0x80003b6,112,1458,3506,7602,7346,0x2000000000014b2,1200,112]
theorem aCS:aF Go.Proofs.Tryz.prog (fun _=>true) aJP 224=true:=by decide+kernel
noncomputable def aJQ:aQ:=cF Tryz.f225 [6,8]
theorem aCT:aF Go.Proofs.Tryz.prog (fun _=>true) aJQ 225=true:=by decide+kernel
noncomputable def aJR:aQ:=cF Tryz.f226 [28,60,0x200030,48,16]
theorem aCU:aF Go.Proofs.Tryz.prog (fun _=>true) aJR 226=true:=by decide+kernel
noncomputable def aJS:aQ:=cF Tryz.f237 [6,14,6156,6156,14348,6188,6380,6572,0x200019ac,6572,0x10000019ac,6540,7948,6156,6156,4]
theorem aCV:aF Go.Proofs.Tryz.prog (fun _=>true) aJS 237=true:=by decide+kernel
noncomputable def aJT:aQ:=cF Tryz.f238 [78,0x100004c,192,328,0x200000140,320,192]
theorem aCW:aF Go.Proofs.Tryz.prog (fun _=>true) aJT 238=true:=by decide+kernel
noncomputable def aJU:aQ:=cF Tryz.f257 [19,275,48,83,48]
theorem aCX:aF Go.Proofs.Tryz.prog (fun _=>true) aJU 257=true:=by decide+kernel
noncomputable def aCY:aQ:=cF Tryz.f258 [3,16]
theorem aCZ:aF Go.Proofs.Tryz.prog (fun _=>true) aCY 258=true:=by decide+kernel
noncomputable def aC0:aQ:=cF Tryz.f259 [7,131077,16,0,16]
theorem aC1:aF Go.Proofs.Tryz.prog (fun _=>true) aC0 259=true:=by decide+kernel
noncomputable def aJV:aQ:=cF Tryz.f260 [3,16]
theorem aC2:aF Go.Proofs.Tryz.prog (fun _=>true) aJV 260=true:=by decide+kernel
noncomputable def aJW:aQ:=cF Tryz.f261 [6,70,4166,48,384,0x400080,48,48]
theorem aC3:aF Go.Proofs.Tryz.prog (fun _=>true) aJW 261=true:=by decide+kernel
noncomputable def aJX:aQ:=cF Tryz.f262 [7,7,65543,64,135,129,1,64]
theorem aC4:aF Go.Proofs.Tryz.prog (fun _=>true) aJX 262=true:=by decide+kernel
noncomputable def aJY:aQ:=cF Tryz.f263 [3,64,48]
theorem aC5:aF Go.Proofs.Tryz.prog (fun _=>true) aJY 263=true:=by decide+kernel
noncomputable def aJZ:aQ:=cF Tryz.f264 [12,76,1100,48,48]
theorem aC6:aF Go.Proofs.Tryz.prog (fun _=>true) aJZ 264=true:=by decide+kernel
noncomputable def aJ0:aQ:=cF Tryz.f265 [42,0]
theorem aC7:aF Go.Proofs.Tryz.prog (fun _=>true) aJ0 265=true:=by decide+kernel
noncomputable def aJ1:aQ:=cF Tryz.f266 [3,387,387,899,419,65955,16,387,16]
theorem aC8:aF Go.Proofs.Tryz.prog (fun _=>true) aJ1 266=true:=by decide+kernel
noncomputable def aJ2:aQ:=cF Tryz.f267 [1,17,12]
theorem aC9:aF Go.Proofs.Tryz.prog (fun _=>true) aJ2 267=true:=by decide+kernel
noncomputable def ZX:aQ:=cF Tryz.f268 [6,4]
theorem aDa:aF Go.Proofs.Tryz.prog (fun _=>true) ZX 268=true:=by decide+kernel
noncomputable def aJ3:aQ:=cF Tryz.f269 [28,220,65756,48,0x10001c,48,284,272,48]
theorem aDb:aF Go.Proofs.Tryz.prog (fun _=>true) aJ3 269=true:=by decide+kernel
noncomputable def aJ4:aQ:=cF Tryz.f285 [113,0x2000071,192,0x8000070,192,192]
theorem aDc:aF Go.Proofs.Tryz.prog (fun _=>true) aJ4 285=true:=by decide+kernel
noncomputable def aDd:aQ:=cF Tryz.f286 [3,387,387,899,419,65955,16,387,16]
theorem aDe:aF Go.Proofs.Tryz.prog (fun _=>true) aDd 286=true:=by decide+kernel
noncomputable def aJ5:aQ:=cF Tryz.f287 [3,387,387,899,419,65955,16,387,16]
theorem aDf:aF Go.Proofs.Tryz.prog (fun _=>true) aJ5 287=true:=by decide+kernel
noncomputable def aJ6:aQ:=cF Tryz.f288 [7,263,1799,1799,132871,3847,0x80000f07,1799,1799,192]
theorem aDg:aF Go.Proofs.Tryz.prog (fun _=>true) aJ6 288=true:=by decide+kernel
noncomputable def aJ7:aQ:=cF Tryz.f289 [6,16]
theorem aDh:aF Go.Proofs.Tryz.prog (fun _=>true) aJ7 289=true:=by decide+kernel
noncomputable def aJ8:aQ:=cF Tryz.f291 [3,16]
theorem aDi:aF Go.Proofs.Tryz.prog (fun _=>true) aJ8 291=true:=by decide+kernel
end Go.Proofs.YtfejhjllooomlaaGreat
