/- The seat's functions as the logical machine runs them (reckoned), and the look at each of them. Printed by a program. -/
import Derived.Test.YticklbjcnimggaaGreatMVm2
import Derived.Test.YticklbjcnimggaaGreatProg
set_option maxRecDepth 100000
namespace Go.Proofs.YticklbjcnimggaaGreat
open Go.Vm
abbrev md:FuncId->CM:=aRc [7,26,27,56,57,58,79,106,111] [184,207,211,220] [126,154,175,198,200,201,208,222]
abbrev mdX (l:List FuncId) (f:FuncId):CM:=bif has l f then .pur else md f
noncomputable abbrev cF (fn:Go.Func) (ks:List Nat):aP:=aOJ Go.Proofs.Tryz.prog fn ⟨md,ks,[],[]⟩
noncomputable abbrev cG (fn:Go.Func) (m:FuncId->CM) (ks:List Nat) (a:List (Nat×List (Nat×Nat))) (b:List (Nat×List (Nat×Option Nat))):aP:=aOJ Go.Proofs.Tryz.prog fn ⟨m,ks,a,b⟩
noncomputable def x4:aP:=cF Tryz.f4 [12,524300,16,44,492,4068,16]
theorem aOQ:aD Go.Proofs.Tryz.prog (fun _=>true) x4 4=true:=by decide+kernel
noncomputable def x6:aP:=cF Tryz.f6 [2,4]
theorem aOR:aD Go.Proofs.Tryz.prog (fun _=>true) x6 6=true:=by decide+kernel
noncomputable def x7:aP:=cF Tryz.f7 [6,4]
theorem aOS:aD Go.Proofs.Tryz.prog (fun _=>true) x7 7=true:=by decide+kernel
noncomputable def x10:aP:=cF Tryz.f10 [12,16]
theorem aI3:aD Go.Proofs.Tryz.prog (fun _=>true) x10 10=true:=by decide+kernel
noncomputable def x11:aP:=cF Tryz.f11 [2,4]
theorem aI4:aD Go.Proofs.Tryz.prog (fun _=>true) x11 11=true:=by decide+kernel
noncomputable def x12:aP:=cG Tryz.f12 md [28,156,0x40009c,112,0x800001c,112,284,0x400000001c,112,1052,1052,27676,0x4000000002c1c,25628,0x80000000000641c,112,1052,33816,164880,112] [(0,[(10,2)])] []
theorem aI5:aD Go.Proofs.Tryz.prog (fun _=>true) x12 12=true:=by decide+kernel
noncomputable def x13:aP:=cF Tryz.f13 [28,540,112,131100,112,112]
theorem aI6:aD Go.Proofs.Tryz.prog (fun _=>true) x13 13=true:=by decide+kernel
noncomputable def x14:aP:=cF Tryz.f14 [3,1027,16,35,35,16419,0x2000023,16,35,16]
theorem aI7:aD Go.Proofs.Tryz.prog (fun _=>true) x14 14=true:=by decide+kernel
noncomputable def x15:aP:=cF Tryz.f15 [2,4]
theorem aI8:aD Go.Proofs.Tryz.prog (fun _=>true) x15 15=true:=by decide+kernel
noncomputable def x22:aP:=cF Tryz.f22 [2,258,4,26,0x10000000000,4,4]
theorem aI9:aD Go.Proofs.Tryz.prog (fun _=>true) x22 22=true:=by decide+kernel
noncomputable def x23:aP:=cF Tryz.f23 [2,130,4,10,0x8000000,4,4]
theorem aJa:aD Go.Proofs.Tryz.prog (fun _=>true) x23 23=true:=by decide+kernel
noncomputable def x24:aP:=cF Tryz.f24 [2,4]
theorem aJb:aD Go.Proofs.Tryz.prog (fun _=>true) x24 24=true:=by decide+kernel
noncomputable def x25:aP:=cF Tryz.f25 [2,4]
theorem aJc:aD Go.Proofs.Tryz.prog (fun _=>true) x25 25=true:=by decide+kernel
noncomputable def x26:aP:=cF Tryz.f26 [6,4]
theorem aJd:aD Go.Proofs.Tryz.prog (fun _=>true) x26 26=true:=by decide+kernel
noncomputable def x27:aP:=cF Tryz.f27 [6,4]
theorem aJe:aD Go.Proofs.Tryz.prog (fun _=>true) x27 27=true:=by decide+kernel
noncomputable def x32:aP:=cF Tryz.f32 [28,92,464,0x4001d0,48,48]
theorem aJf:aD Go.Proofs.Tryz.prog (fun _=>true) x32 32=true:=by decide+kernel
noncomputable def x33:aP:=cF Tryz.f33 [12,0x8000000000c,16,44,44,0x100000000002c,0x200000000000002c,16,44,16]
theorem aJg:aD Go.Proofs.Tryz.prog (fun _=>true) x33 33=true:=by decide+kernel
noncomputable def x34:aP:=cF Tryz.f34 [12,524300,16,44,44,0x100002c,0x200000002c,16,44,16]
theorem aJh:aD Go.Proofs.Tryz.prog (fun _=>true) x34 34=true:=by decide+kernel
noncomputable def x35:aP:=cF Tryz.f35 [2,0x100000,4,4]
theorem aJi:aD Go.Proofs.Tryz.prog (fun _=>true) x35 35=true:=by decide+kernel
noncomputable def x36:aP:=cF Tryz.f36 [12,76,4172,48,0x10000c,48,132,0x8000000080,128,48]
theorem aJj:aD Go.Proofs.Tryz.prog (fun _=>true) x36 36=true:=by decide+kernel
noncomputable def x37:aP:=cF Tryz.f37 [124,884,0x1000274,628,0x4000274,240,1140,7792,0x200000001e70,240,7280,240]
theorem aJk:aD Go.Proofs.Tryz.prog (fun _=>true) x37 37=true:=by decide+kernel
noncomputable def x38:aP:=cF Tryz.f38 [28,220,848,0x2000350,48,48]
theorem aJl:aD Go.Proofs.Tryz.prog (fun _=>true) x38 38=true:=by decide+kernel
noncomputable def x39:aP:=cF Tryz.f39 [28,220,524444,156,0x20009c,48,280,272,48]
theorem aJm:aD Go.Proofs.Tryz.prog (fun _=>true) x39 39=true:=by decide+kernel
noncomputable def x40:aP:=cG Tryz.f40 md [28,80,336,0x30000150,0x30000150,0x70000150,0x30000350,0x30000150,0x30000150,0xe000000150,0xe000000150,0x1e000000150,0xe000000d50,0x300e000000550,0x300e000000550,0x700e000000550,0x300e000002550,0x2300e000002550,0x300e000000550,0x300e000000550,0xe000000150,16720,0xe000000000004150,0xe000000000004150,0x1e000000000004150,0xe00000000001c150,0x100e00000000001c150,0xe000000000004150,0xe000000000004150,48] [(3,[(14,2)])] []
theorem aJn:aD Go.Proofs.Tryz.prog (fun _=>true) x40 40=true:=by decide+kernel
noncomputable def x41:aP:=cF Tryz.f41 [12,140,16,4096,16,16]
theorem aJo:aD Go.Proofs.Tryz.prog (fun _=>true) x41 41=true:=by decide+kernel
noncomputable def x42:aP:=cG Tryz.f42 md [28,152,408,408,262552,2968,14744,0x400003998,112,408,408,112] [(0,[(8,2)])] []
theorem aJp:aD Go.Proofs.Tryz.prog (fun _=>true) x42 42=true:=by decide+kernel
noncomputable def x44:aP:=cF Tryz.f44 [2,258,4,10,10,8202,0x40000a,4,10,18,18,0x8000012,0x80000000012,4,18,4]
theorem aJq:aD Go.Proofs.Tryz.prog (fun _=>true) x44 44=true:=by decide+kernel
noncomputable def x45:aP:=cF Tryz.f45 [2,0x100000,4,4]
theorem aJr:aD Go.Proofs.Tryz.prog (fun _=>true) x45 45=true:=by decide+kernel
noncomputable def x47:aP:=cG Tryz.f47 md [2,10,26,26,1050,58,58,131130,0x200000003a,58,58,26,4] [(0,[(3,2)]),(1,[(3,2)])] []
theorem aJs:aD Go.Proofs.Tryz.prog (fun _=>true) x47 47=true:=by decide+kernel
noncomputable def x49:aP:=cF Tryz.f49 [2,0x7000002,0x7000002,0xf000002,0x7000012,0x87000002,4,0x7000002,0x800000000002,4,34,0x70000000000022,0x70000000000022,0xf0000000000022,0x700000000000a2,0x700000000007a2,0x4000700000000003a2,4,0x10000700000000001a2,0x10000000700000000001a2,4,0x700000000009a2,0x40000000000000000070000000000022,4,0x70000000000022,0x70000000000022,0x1000000000000000000000000000000000,4,4]
theorem aJt:aD Go.Proofs.Tryz.prog (fun _=>true) x49 49=true:=by decide+kernel
noncomputable def x50:aP:=cF Tryz.f50 [3,1027,16,12291,12291,28675,12323,0x1003003,16,12291,16]
theorem aJu:aD Go.Proofs.Tryz.prog (fun _=>true) x50 50=true:=by decide+kernel
noncomputable def x51:aP:=cF Tryz.f51 [12,44,16]
theorem aJv:aD Go.Proofs.Tryz.prog (fun _=>true) x51 51=true:=by decide+kernel
noncomputable def x52:aP:=cF Tryz.f52 [2,0x100000000000002,4,10,26,26,0x400000000000001a,58,250,0x40000000000000000007a,0x400000000000000000000007a,4,890,0x2000000000000000000000000000001a,4,26,26,0x1000000000000000000000000000000000,4,4]
theorem aJw:aD Go.Proofs.Tryz.prog (fun _=>true) x52 52=true:=by decide+kernel
noncomputable def x53:aP:=cF Tryz.f53 [28,16]
theorem aJx:aD Go.Proofs.Tryz.prog (fun _=>true) x53 53=true:=by decide+kernel
noncomputable def x54:aP:=cF Tryz.f54 [6,4102,16,38,38,65574,0x4000000026,16,38,16]
theorem aJy:aD Go.Proofs.Tryz.prog (fun _=>true) x54 54=true:=by decide+kernel
noncomputable def x55:aP:=cF Tryz.f55 [2,4]
theorem aJz:aD Go.Proofs.Tryz.prog (fun _=>true) x55 55=true:=by decide+kernel
noncomputable def x56:aP:=cF Tryz.f56 [6,4]
theorem aJA:aD Go.Proofs.Tryz.prog (fun _=>true) x56 56=true:=by decide+kernel
noncomputable def x57:aP:=cF Tryz.f57 [6,4]
theorem aJB:aD Go.Proofs.Tryz.prog (fun _=>true) x57 57=true:=by decide+kernel
noncomputable def x58:aP:=cF Tryz.f58 [6,4]
theorem aJC:aD Go.Proofs.Tryz.prog (fun _=>true) x58 58=true:=by decide+kernel
noncomputable def x59:aP:=cG Tryz.f59 md [28,92,524380,48,156,412,0x700019c,0x700019c,0xf00019c,0x700079c,0x7000f9c,0x7000f9c,0x1007000f9c,0x7001f9c,0x7003f9c,0x40000007001f9c,0x7000f9c,0x10000000007000b9c,0x7000b9c,0x7000b9c,0x700019c,0x700019c,48] [(0,[(8,1)])] [(0,[(7,some 2003),(1000008,none)]),(1,[(1000008,none)])]
theorem aJD:aD Go.Proofs.Tryz.prog (fun _=>true) x59 59=true:=by decide+kernel
noncomputable def x60:aP:=cF Tryz.f60 [92,348,0x80015c,192,604,0x2000025c,192,0x70000005c,0x70000005c,0xf0000005c,0x70000085c,0x400000070000005c,192,0x70000005c,0xe000000000000005c,0xe000000000000005c,0x1e000000000000005c,0xe000000000000305c,0x100e000000000000005c,192,0xe000000000000005c,0x38000000000000000005c,0x38000000000000000005c,0x78000000000000000005c,0x38000000000000000805c,0x38000000000000002805c,0x3800000000000000a005c,0x10000038000000000000000005c,192,0x38000000000000000005c,192]
theorem aJE:aD Go.Proofs.Tryz.prog (fun _=>true) x60 60=true:=by decide+kernel
noncomputable def x62:aP:=cF Tryz.f62 [6,70,4166,48,384,0x200080,48,48]
theorem aJF:aD Go.Proofs.Tryz.prog (fun _=>true) x62 62=true:=by decide+kernel
noncomputable def x65:aP:=cF Tryz.f65 [6,38,38,1062,0x100026,16,38,16]
theorem aJG:aD Go.Proofs.Tryz.prog (fun _=>true) x65 65=true:=by decide+kernel
noncomputable def x67:aP:=cG Tryz.f67 (mdX [26]) [92,348,860,860,0x80035c,0x80000035c,860,860,0x2000000000154,3396,0x200000000000d44,192,324,4420,4420,0x10000000000001144,0x2000000000000001144,45380,0x200000000000000000b144,192,4420,4420,192] [] []
theorem aJH:aD Go.Proofs.Tryz.prog (fun _=>true) x67 67=true:=by decide+kernel
noncomputable def x68:aP:=cF Tryz.f68 [12,4108,16,44,44,131116,0x4000002c,16,44,16]
theorem aJI:aD Go.Proofs.Tryz.prog (fun _=>true) x68 68=true:=by decide+kernel
noncomputable def x69:aP:=cF Tryz.f69 [12,524300,16,44,44,0x100002c,0x200000002c,16,44,16]
theorem aJJ:aD Go.Proofs.Tryz.prog (fun _=>true) x69 69=true:=by decide+kernel
noncomputable def x70:aP:=cF Tryz.f70 [12,0x1000000c,16,44,44,0x20000002c,0x40000000002c,16,44,16]
theorem aJK:aD Go.Proofs.Tryz.prog (fun _=>true) x70 70=true:=by decide+kernel
noncomputable def x71:aP:=cF Tryz.f71 [3,3,67,3,16]
theorem aJL:aD Go.Proofs.Tryz.prog (fun _=>true) x71 71=true:=by decide+kernel
noncomputable def x72:aP:=cF Tryz.f72 [1,17,4,4]
theorem aJM:aD Go.Proofs.Tryz.prog (fun _=>true) x72 72=true:=by decide+kernel
noncomputable def x73:aP:=cF Tryz.f73 [12,16]
theorem aJN:aD Go.Proofs.Tryz.prog (fun _=>true) x73 73=true:=by decide+kernel
noncomputable def x74:aP:=cF Tryz.f74 [3,35,99,2115,4096,16,16,8195,16,65539,16,524288,16,16]
theorem aJO:aD Go.Proofs.Tryz.prog (fun _=>true) x74 74=true:=by decide+kernel
noncomputable def x75:aP:=cF Tryz.f75 [12,44,4140,16,16]
theorem aJP:aD Go.Proofs.Tryz.prog (fun _=>true) x75 75=true:=by decide+kernel
noncomputable def x76:aP:=cF Tryz.f76 [19,115,16]
theorem aJQ:aD Go.Proofs.Tryz.prog (fun _=>true) x76 76=true:=by decide+kernel
noncomputable def x77:aP:=cF Tryz.f77 [12,76,524364,48,140,0x2000000c,48,1544,0x2000000208,48,2048,48]
theorem aJR:aD Go.Proofs.Tryz.prog (fun _=>true) x77 77=true:=by decide+kernel
noncomputable def x78:aP:=cF Tryz.f78 [54,950,0x20003b6,112,1462,1334,7476,0x10000000d34,44336,0x8000000000ad30,112,1328,112]
theorem aJS:aD Go.Proofs.Tryz.prog (fun _=>true) x78 78=true:=by decide+kernel
noncomputable def x79:aP:=cF Tryz.f79 [6,6,6,14,6,4]
theorem aJT:aD Go.Proofs.Tryz.prog (fun _=>true) x79 79=true:=by decide+kernel
noncomputable def x80:aP:=cF Tryz.f80 [12,96,0x200060,0x4000000,16,16,0x20000060,16,16]
theorem aJU:aD Go.Proofs.Tryz.prog (fun _=>true) x80 80=true:=by decide+kernel
noncomputable def x81:aP:=cF Tryz.f81 [12,16]
theorem aJV:aD Go.Proofs.Tryz.prog (fun _=>true) x81 81=true:=by decide+kernel
noncomputable def x82:aP:=cF Tryz.f82 [30,62,126,252,252,28]
theorem aJW:aD Go.Proofs.Tryz.prog (fun _=>true) x82 82=true:=by decide+kernel
noncomputable def x83:aP:=cF Tryz.f83 [28,56,48,16]
theorem aJX:aD Go.Proofs.Tryz.prog (fun _=>true) x83 83=true:=by decide+kernel
noncomputable def x84:aP:=cF Tryz.f84 [2,2050,4,57346,57346,122882,57362,57378,0x40e022,4,57346,0x1c000002,0x1c000002,0x3c000002,0x1c0000c2,0x40001c000002,4,0x1c000002,4]
theorem aJY:aD Go.Proofs.Tryz.prog (fun _=>true) x84 84=true:=by decide+kernel
noncomputable def x86:aP:=cF Tryz.f86 [2,0x40000000,4,4]
theorem aJZ:aD Go.Proofs.Tryz.prog (fun _=>true) x86 86=true:=by decide+kernel
noncomputable def x87:aP:=cF Tryz.f87 [3,3,67,3,16]
theorem aJ0:aD Go.Proofs.Tryz.prog (fun _=>true) x87 87=true:=by decide+kernel
noncomputable def x88:aP:=cF Tryz.f88 [1,17,4,4]
theorem aJ1:aD Go.Proofs.Tryz.prog (fun _=>true) x88 88=true:=by decide+kernel
noncomputable def x91:aP:=cF Tryz.f91 [2,0x100002,4,26,0x380001a,0x380001a,0x780001a,0x380005a,0x800000380004a,4,0x380001a,0x380001a,4]
theorem aJ2:aD Go.Proofs.Tryz.prog (fun _=>true) x91 91=true:=by decide+kernel
noncomputable def x92:aP:=cF Tryz.f92 [2,0x1000000002,4,0x1c000000002,0x1c000000002,0x3c000000002,0x1c00000001a,0x801c00000001a,0x2001c000000002,4,0x8000000001c000000002,4,0x1c000000002,34,0x3800000000000000000022,0x3800000000000000000022,0x7800000000000000000022,0x38000000000000000000e2,0x20000038000000000000000000e2,4,0x38000000000000000000e2,0x40000000003800000000000000000022,4,0x3800000000000000000022,4]
theorem aJ3:aD Go.Proofs.Tryz.prog (fun _=>true) x92 92=true:=by decide+kernel
noncomputable def x93:aP:=cF Tryz.f93 [120,448]
theorem aJ4:aD Go.Proofs.Tryz.prog (fun _=>true) x93 93=true:=by decide+kernel
noncomputable def x94:aP:=cF Tryz.f94 [6,8]
theorem aJ5:aD Go.Proofs.Tryz.prog (fun _=>true) x94 94=true:=by decide+kernel
noncomputable def x95:aP:=cF Tryz.f95 [9,16]
theorem aJ6:aD Go.Proofs.Tryz.prog (fun _=>true) x95 95=true:=by decide+kernel
noncomputable def x96:aP:=cF Tryz.f96 [3,16]
theorem aJ7:aD Go.Proofs.Tryz.prog (fun _=>true) x96 96=true:=by decide+kernel
noncomputable def x97:aP:=cF Tryz.f97 [2,524290,4,10,10,0x100000a,26,0x800000000000001a,4,58,58,0x4000000000000003a,0x2000000000000000003a,4,58,10,4]
theorem aJ8:aD Go.Proofs.Tryz.prog (fun _=>true) x97 97=true:=by decide+kernel
noncomputable def x98:aP:=cF Tryz.f98 [12,44,44,1068,0x40000002c,16,44,16]
theorem aJ9:aD Go.Proofs.Tryz.prog (fun _=>true) x98 98=true:=by decide+kernel
noncomputable def x99:aP:=cF Tryz.f99 [2,32770,4,10,10,0x10000a,26,0x2000000001a,4,58,58,0x10000000003a,0x8000000000003a,4,58,10,66,66,0x1000000000000042,0x8000000000000000042,4,66,4]
theorem aKa:aD Go.Proofs.Tryz.prog (fun _=>true) x99 99=true:=by decide+kernel
noncomputable def aKb:aP:=cF Tryz.f100 [120,192]
theorem aCC:aD Go.Proofs.Tryz.prog (fun _=>true) aKb 100=true:=by decide+kernel
noncomputable def aKc:aP:=cF Tryz.f101 [28,284,48,16412,48,48]
theorem aCD:aD Go.Proofs.Tryz.prog (fun _=>true) aKc 101=true:=by decide+kernel
noncomputable def aKd:aP:=cG Tryz.f102 md [28,60,124,124,2172,124,124,48,16] [] [(0,[(5,some 2003)])]
theorem aCE:aD Go.Proofs.Tryz.prog (fun _=>true) aKd 102=true:=by decide+kernel
noncomputable def aKe:aP:=cF Tryz.f103 [12,44,44,1068,0x10002c,16,44,16]
theorem aCF:aD Go.Proofs.Tryz.prog (fun _=>true) aKe 103=true:=by decide+kernel
noncomputable def aKf:aP:=cF Tryz.f104 [56,64]
theorem aCG:aD Go.Proofs.Tryz.prog (fun _=>true) aKf 104=true:=by decide+kernel
noncomputable def aKg:aP:=cF Tryz.f105 [2,4]
theorem aCH:aD Go.Proofs.Tryz.prog (fun _=>true) aKg 105=true:=by decide+kernel
noncomputable def aKh:aP:=cF Tryz.f106 [6,4]
theorem aCI:aD Go.Proofs.Tryz.prog (fun _=>true) aKh 106=true:=by decide+kernel
noncomputable def aKi:aP:=cF Tryz.f107 [12,40,552,16,16]
theorem aCJ:aD Go.Proofs.Tryz.prog (fun _=>true) aKi 107=true:=by decide+kernel
noncomputable def aKj:aP:=cF Tryz.f108 [56,312,16696,192,192]
theorem aCK:aD Go.Proofs.Tryz.prog (fun _=>true) aKj 108=true:=by decide+kernel
noncomputable def aKk:aP:=cF Tryz.f109 [22,212,32980,48,48]
theorem aCL:aD Go.Proofs.Tryz.prog (fun _=>true) aKk 109=true:=by decide+kernel
noncomputable def aKl:aP:=cF Tryz.f110 [92,229468,229468,491612,229980,0x203825c,229468,229468,92,0x1000000005c,1100,0x100000000044c,192,0x38000000000048,0x38000000000048,0x78000000000048,0x38000000001048,0x2038000000001048,0x38000000000448,0x400038000000000448,192,0x38000000000048,192]
theorem aCM:aD Go.Proofs.Tryz.prog (fun _=>true) aKl 110=true:=by decide+kernel
noncomputable def aKm:aP:=cF Tryz.f111 [6,6,6,6,14,14,6,4]
theorem aCN:aD Go.Proofs.Tryz.prog (fun _=>true) aKm 111=true:=by decide+kernel
noncomputable def aKn:aP:=cF Tryz.f112 [6,48]
theorem aCO:aD Go.Proofs.Tryz.prog (fun _=>true) aKn 112=true:=by decide+kernel
noncomputable def aKo:aP:=cF Tryz.f113 [9,41,41,553,131113,16,41,16]
theorem aCP:aD Go.Proofs.Tryz.prog (fun _=>true) aKo 113=true:=by decide+kernel
noncomputable def aKp:aP:=cF Tryz.f114 [22,54,54,116,262260,116,48,16]
theorem aCQ:aD Go.Proofs.Tryz.prog (fun _=>true) aKp 114=true:=by decide+kernel
noncomputable def aKq:aP:=cG Tryz.f115 (mdX [26,56]) [28,92,92,92,220,220,0x20000dc,476,988,4060,0x8000000000fdc,4060,4060,0x40000000000000000fdc,4060,0x4000000000000000000005dc,0x80000000000000000000005dc,48,12764,8668,220,220,48] [] [(0,[(6,some 11003)])]
theorem aCR:aD Go.Proofs.Tryz.prog (fun _=>true) aKq 115=true:=by decide+kernel
noncomputable def aKr:aP:=cF Tryz.f116 [28,924,0x100039c,112,1436,1308,7444,0x20000000d14,112,0x1000000000d14,112,25872,17680,1296,112]
theorem aCS:aD Go.Proofs.Tryz.prog (fun _=>true) aKr 116=true:=by decide+kernel
noncomputable def aKs:aP:=cF Tryz.f117 [12,16]
theorem aCT:aD Go.Proofs.Tryz.prog (fun _=>true) aKs 117=true:=by decide+kernel
noncomputable def aKt:aP:=cF Tryz.f118 [3,1027,16,35,35,16419,0x2000023,16,35,16]
theorem aCU:aD Go.Proofs.Tryz.prog (fun _=>true) aKt 118=true:=by decide+kernel
noncomputable def aKu:aP:=cF Tryz.f119 [1,4]
theorem aCV:aD Go.Proofs.Tryz.prog (fun _=>true) aKu 119=true:=by decide+kernel
noncomputable def aKv:aP:=cF Tryz.f120 [3,35,99,2115,4096,16,16,8195,16,65539,16,524288,16,16]
theorem aCW:aD Go.Proofs.Tryz.prog (fun _=>true) aKv 120=true:=by decide+kernel
noncomputable def aKw:aP:=cF Tryz.f121 [3,67,195,451,963,1987,2755,6851,12995,12931,19,48]
theorem aCX:aD Go.Proofs.Tryz.prog (fun _=>true) aKw 121=true:=by decide+kernel
noncomputable def aKx:aP:=cF Tryz.f122 [6,22,278,12,16390,12,12]
theorem aCY:aD Go.Proofs.Tryz.prog (fun _=>true) aKx 122=true:=by decide+kernel
noncomputable def aKy:aP:=cF Tryz.f123 [54,436,65972,112,112]
theorem aCZ:aD Go.Proofs.Tryz.prog (fun _=>true) aKy 123=true:=by decide+kernel
noncomputable def aKz:aP:=cF Tryz.f124 [3,48]
theorem aC0:aD Go.Proofs.Tryz.prog (fun _=>true) aKz 124=true:=by decide+kernel
noncomputable def aKA:aP:=cF Tryz.f125 [60,436,65972,112,112]
theorem aC1:aD Go.Proofs.Tryz.prog (fun _=>true) aKA 125=true:=by decide+kernel
noncomputable def aKB:aP:=cF Tryz.f126 [7,7,65543,64,135,129,1,64]
theorem aC2:aD Go.Proofs.Tryz.prog (fun _=>true) aKB 126=true:=by decide+kernel
noncomputable def aKC:aP:=cF Tryz.f132 [19,51,48,16]
theorem aC3:aD Go.Proofs.Tryz.prog (fun _=>true) aKC 132=true:=by decide+kernel
noncomputable def aKD:aP:=cF Tryz.f133 [2,1026,4,4096,4,4]
theorem aC4:aD Go.Proofs.Tryz.prog (fun _=>true) aKD 133=true:=by decide+kernel
noncomputable def aKE:aP:=cF Tryz.f134 [12,524,16384,16,16,524300,0x1000000,16,16,16]
theorem aC5:aD Go.Proofs.Tryz.prog (fun _=>true) aKE 134=true:=by decide+kernel
noncomputable def aKF:aP:=cF Tryz.f135 [6,38,38,1062,0x100026,16,38,16]
theorem aC6:aD Go.Proofs.Tryz.prog (fun _=>true) aKF 135=true:=by decide+kernel
noncomputable def aKG:aP:=cF Tryz.f136 [2,10,0x800000,4,4]
theorem aC7:aD Go.Proofs.Tryz.prog (fun _=>true) aKG 136=true:=by decide+kernel
noncomputable def aKH:aP:=cF Tryz.f140 [56,152,8344,64,0x100018,64,64]
theorem aC8:aD Go.Proofs.Tryz.prog (fun _=>true) aKH 140=true:=by decide+kernel
noncomputable def aKI:aP:=cF Tryz.f141 [2,4]
theorem aC9:aD Go.Proofs.Tryz.prog (fun _=>true) aKI 141=true:=by decide+kernel
noncomputable def aKJ:aP:=cF Tryz.f142 [2,10,0x80000a,4,26,50,0x800000002,4,0xe000000002,0xe000000002,0x1e000000002,0xe0000000c2,0x100000e000000002,4,0xe000000002,4]
theorem aDa:aD Go.Proofs.Tryz.prog (fun _=>true) aKJ 142=true:=by decide+kernel
noncomputable def aKK:aP:=cF Tryz.f143 [12,44,16]
theorem aDb:aD Go.Proofs.Tryz.prog (fun _=>true) aKK 143=true:=by decide+kernel
noncomputable def aKL:aP:=cF Tryz.f144 [120,632,131704,448,0x1000078,448,0x40000058,448,3136,448]
theorem aDc:aD Go.Proofs.Tryz.prog (fun _=>true) aKL 144=true:=by decide+kernel
noncomputable def aKM:aP:=cF Tryz.f145 [22,116,32820,16,16]
theorem aDd:aD Go.Proofs.Tryz.prog (fun _=>true) aKM 145=true:=by decide+kernel
noncomputable def aKN:aP:=cF Tryz.f146 [9,393,393,905,425,65961,16,393,16]
theorem aDe:aD Go.Proofs.Tryz.prog (fun _=>true) aKN 146=true:=by decide+kernel
noncomputable def aKO:aP:=cF Tryz.f147 [3,387,387,899,419,65955,16,387,16]
theorem aDf:aD Go.Proofs.Tryz.prog (fun _=>true) aKO 147=true:=by decide+kernel
noncomputable def aKP:aP:=cF Tryz.f148 [2,4]
theorem aDg:aD Go.Proofs.Tryz.prog (fun _=>true) aKP 148=true:=by decide+kernel
noncomputable def aKQ:aP:=cF Tryz.f149 [2,10,0x2000000a,4,26,58,58,0x100000003a,0x800000000000003a,4,58,58,90,90,0x200000000000000005a,0x10000000000000000000000000005a,4,90,4]
theorem aDh:aD Go.Proofs.Tryz.prog (fun _=>true) aKQ 149=true:=by decide+kernel
noncomputable def aKR:aP:=cF Tryz.f150 [2,10,0x400000a,4,26,26,0x2000001a,0x400000001a,0x10000000001a,4,58,0x20000000000000000001a,4,26,4]
theorem aDi:aD Go.Proofs.Tryz.prog (fun _=>true) aKR 150=true:=by decide+kernel
noncomputable def aKS:aP:=cF Tryz.f151 [12,44,16]
theorem aDj:aD Go.Proofs.Tryz.prog (fun _=>true) aKS 151=true:=by decide+kernel
noncomputable def aKT:aP:=cF Tryz.f152 [120,2168,192,131160,192,192]
theorem aDk:aD Go.Proofs.Tryz.prog (fun _=>true) aKT 152=true:=by decide+kernel
noncomputable def aKU:aP:=cF Tryz.f153 [12,16]
theorem aDl:aD Go.Proofs.Tryz.prog (fun _=>true) aKU 153=true:=by decide+kernel
noncomputable def aKV:aP:=cF Tryz.f154 [248,2296,264440,2288,2048,1024]
theorem aDm:aD Go.Proofs.Tryz.prog (fun _=>true) aKV 154=true:=by decide+kernel
noncomputable def aKW:aP:=cF Tryz.f155 [56,152,65688,64,0x400000,64,64]
theorem aDn:aD Go.Proofs.Tryz.prog (fun _=>true) aKW 155=true:=by decide+kernel
noncomputable def aKX:aP:=cF Tryz.f156 [56,152,0x10000098,0x80000000,64,64,64]
theorem aDo:aD Go.Proofs.Tryz.prog (fun _=>true) aKX 156=true:=by decide+kernel
noncomputable def aKY:aP:=cF Tryz.f157 [22,86,8278,48,656,48]
theorem aDp:aD Go.Proofs.Tryz.prog (fun _=>true) aKY 157=true:=by decide+kernel
noncomputable def aKZ:aP:=cF Tryz.f158 [3,1027,16,12291,12291,28675,12323,0x1003003,16,12291,16]
theorem aDq:aD Go.Proofs.Tryz.prog (fun _=>true) aKZ 158=true:=by decide+kernel
noncomputable def aK0:aP:=cG Tryz.f159 (mdX [79]) [28,92,0x40005c,48,156,0x1000009c,48,0xe0000001c,0xe0000001c,0x1e0000001c,0xe0000021c,0x40000e0000001c,48,0xe0000001c,1052,1052,0x38000000000000041c,0x38000000000000041c,0x78000000000000041c,0x38000000000000141c,0x38000000000000f41c,0x38000000000003f41c,0x8000038000000000003f41c,0x38000000000001841c,0x38000000000000841c,0x100000000000038000000000003b41c,0x38000000000004341c,0x38000000000004341c,0x38000000000004841c,0x38000000000000841c,0x80000000000000000038000000000001841c,0x38000000000000841c,0x1000000000000000000000038000000000000841c,48,0x38000000000000041c,48] [] [(1,[(10,some 11003)])]
theorem aDr:aD Go.Proofs.Tryz.prog (fun _=>true) aK0 159=true:=by decide+kernel
noncomputable def aK1:aP:=cF Tryz.f160 [6,8]
theorem aDs:aD Go.Proofs.Tryz.prog (fun _=>true) aK1 160=true:=by decide+kernel
noncomputable def aK2:aP:=cF Tryz.f161 [28,156,412,0x20019c,112,3740,0x2000000e9c,112,0x800000000000e9c,112,0x40000000000000e9c,112,5788,5276,31892,0x10000000000000000007c94,112,0x800000000000000000003494,234640,0x400000000000000000000039490,112,5136,112]
theorem aDt:aD Go.Proofs.Tryz.prog (fun _=>true) aK2 161=true:=by decide+kernel
noncomputable def aK3:aP:=cF Tryz.f162 [7,263,1799,1799,132871,3847,0x80000f07,1799,1799,192]
theorem aDu:aD Go.Proofs.Tryz.prog (fun _=>true) aK3 162=true:=by decide+kernel
noncomputable def aK4:aP:=cF Tryz.f163 [6,16]
theorem aDv:aD Go.Proofs.Tryz.prog (fun _=>true) aK4 163=true:=by decide+kernel
noncomputable def aK5:aP:=cF Tryz.f164 [3,35,99,2115,4096,16,16,8195,16,65539,16,524288,16,16]
theorem aDw:aD Go.Proofs.Tryz.prog (fun _=>true) aK5 164=true:=by decide+kernel
noncomputable def aK6:aP:=cG Tryz.f165 md [22,54,118,118,16502,0x1000076,118,118,16] [] [(0,[(5,some 2003)])]
theorem aDx:aD Go.Proofs.Tryz.prog (fun _=>true) aK6 165=true:=by decide+kernel
noncomputable def aK7:aP:=cF Tryz.f166 [6,38,38,1062,0x100026,16,38,16]
theorem aDy:aD Go.Proofs.Tryz.prog (fun _=>true) aK7 166=true:=by decide+kernel
noncomputable def aK8:aP:=cF Tryz.f167 [28,56,248,0x4000f8,248,248,248,240,0x100000000070,48,16]
theorem aDz:aD Go.Proofs.Tryz.prog (fun _=>true) aK8 167=true:=by decide+kernel
noncomputable def aK9:aP:=cF Tryz.f168 [120,240,480,448,192,64]
theorem aDA:aD Go.Proofs.Tryz.prog (fun _=>true) aK9 168=true:=by decide+kernel
noncomputable def aLa:aP:=cF Tryz.f169 [2,10,4]
theorem aDB:aD Go.Proofs.Tryz.prog (fun _=>true) aLa 169=true:=by decide+kernel
noncomputable def aLb:aP:=cF Tryz.f170 [220,468,2004,1492,1472,1472,1472,192]
theorem aDC:aD Go.Proofs.Tryz.prog (fun _=>true) aLb 170=true:=by decide+kernel
noncomputable def aLc:aP:=cF Tryz.f171 [28,32796,112,524316,112,0x2000001c,112,156,148,148,112]
theorem aDD:aD Go.Proofs.Tryz.prog (fun _=>true) aLc 171=true:=by decide+kernel
noncomputable def aLd:aP:=cF Tryz.f172 [3,1027,16,35,35,16419,0x2000023,16,35,16]
theorem aDE:aD Go.Proofs.Tryz.prog (fun _=>true) aLd 172=true:=by decide+kernel
noncomputable def aLe:aP:=cF Tryz.f173 [1,4]
theorem aDF:aD Go.Proofs.Tryz.prog (fun _=>true) aLe 173=true:=by decide+kernel
noncomputable def aLf:aP:=cF Tryz.f174 [6,70,4166,48,384,0x400080,48,48]
theorem aDG:aD Go.Proofs.Tryz.prog (fun _=>true) aLf 174=true:=by decide+kernel
noncomputable def aLg:aP:=cF Tryz.f175 [7,7,65543,64,135,129,1,64]
theorem aDH:aD Go.Proofs.Tryz.prog (fun _=>true) aLg 175=true:=by decide+kernel
noncomputable def aLh:aP:=cF Tryz.f176 [7,263,1799,1799,132871,3847,0x80000f07,1799,1799,192]
theorem aDI:aD Go.Proofs.Tryz.prog (fun _=>true) aLh 176=true:=by decide+kernel
noncomputable def aLi:aP:=cF Tryz.f177 [6,16]
theorem aDJ:aD Go.Proofs.Tryz.prog (fun _=>true) aLi 177=true:=by decide+kernel
noncomputable def aLj:aP:=cF Tryz.f178 [12,76,4172,48,396,0x400000c,48,48]
theorem aDK:aD Go.Proofs.Tryz.prog (fun _=>true) aLj 178=true:=by decide+kernel
noncomputable def aLk:aP:=cF Tryz.f179 [54,182,950,0x80003b6,112,1458,3506,7602,7346,0x2000000000014b2,1200,112]
theorem aDL:aD Go.Proofs.Tryz.prog (fun _=>true) aLk 179=true:=by decide+kernel
noncomputable def aLl:aP:=cF Tryz.f180 [19,496,1008,1776,3760,16]
theorem aDM:aD Go.Proofs.Tryz.prog (fun _=>true) aLl 180=true:=by decide+kernel
noncomputable def aLm:aP:=cF Tryz.f181 [1,4]
theorem aDN:aD Go.Proofs.Tryz.prog (fun _=>true) aLm 181=true:=by decide+kernel
noncomputable def aLn:aP:=cF Tryz.f183 [56,64]
theorem aDO:aD Go.Proofs.Tryz.prog (fun _=>true) aLn 183=true:=by decide+kernel
noncomputable def aDP:aP:=cF Tryz.f184 [3,16]
theorem aDQ:aD Go.Proofs.Tryz.prog (fun _=>true) aDP 184=true:=by decide+kernel
noncomputable def aDR:aP:=cF Tryz.f185 [7,131077,16,0,16]
theorem aDS:aD Go.Proofs.Tryz.prog (fun _=>true) aDR 185=true:=by decide+kernel
noncomputable def aLo:aP:=cF Tryz.f186 [3,16]
theorem aDT:aD Go.Proofs.Tryz.prog (fun _=>true) aLo 186=true:=by decide+kernel
noncomputable def aLp:aP:=cF Tryz.f187 [1,9,456,456,968,488,16872,4,456,4]
theorem aDU:aD Go.Proofs.Tryz.prog (fun _=>true) aLp 187=true:=by decide+kernel
noncomputable def aLq:aP:=cF Tryz.f188 [28,92,4188,48,524316,48,48]
theorem aDV:aD Go.Proofs.Tryz.prog (fun _=>true) aLq 188=true:=by decide+kernel
noncomputable def aLr:aP:=cF Tryz.f189 [6,16]
theorem aDW:aD Go.Proofs.Tryz.prog (fun _=>true) aLr 189=true:=by decide+kernel
noncomputable def aLs:aP:=cF Tryz.f190 [28,48,16]
theorem aDX:aD Go.Proofs.Tryz.prog (fun _=>true) aLs 190=true:=by decide+kernel
noncomputable def aLt:aP:=cF Tryz.f191 [60,572,1592,1592,17976,0x100000638,1592,1592,256]
theorem aDY:aD Go.Proofs.Tryz.prog (fun _=>true) aLt 191=true:=by decide+kernel
noncomputable def aLu:aP:=cF Tryz.f192 [6,14,6156,6156,14348,6188,6380,6572,0x200019ac,6572,0x10000019ac,6540,7948,6156,6156,4]
theorem aDZ:aD Go.Proofs.Tryz.prog (fun _=>true) aLu 192=true:=by decide+kernel
noncomputable def aLv:aP:=cF Tryz.f193 [120,376,524664,192,1640,0x20000668,192,2656,6752,6720,2112,192]
theorem aD0:aD Go.Proofs.Tryz.prog (fun _=>true) aLv 193=true:=by decide+kernel
noncomputable def aLw:aP:=cF Tryz.f194 [248,760,0x2002f8,448,0x400000f8,448,0x10000000f8,448,7416,0x800000001cf8,448,11504,27840,26816,10432,448]
theorem aD1:aD Go.Proofs.Tryz.prog (fun _=>true) aLw 194=true:=by decide+kernel
noncomputable def aLx:aP:=cF Tryz.f195 [5,28]
theorem aD2:aD Go.Proofs.Tryz.prog (fun _=>true) aLx 195=true:=by decide+kernel
noncomputable def aLy:aP:=cF Tryz.f196 [28,156,4252,112,131100,112,0x40001c,112,0x10000001c,112,276,112]
theorem aD3:aD Go.Proofs.Tryz.prog (fun _=>true) aLy 196=true:=by decide+kernel
noncomputable def aLz:aP:=cF Tryz.f197 [1,4]
theorem aD4:aD Go.Proofs.Tryz.prog (fun _=>true) aLz 197=true:=by decide+kernel
noncomputable def aLA:aP:=cF Tryz.f198 [14,14,0]
theorem aD5:aD Go.Proofs.Tryz.prog (fun _=>true) aLA 198=true:=by decide+kernel
noncomputable def aLB:aP:=cF Tryz.f199 [28,56,56,48,16]
theorem aD6:aD Go.Proofs.Tryz.prog (fun _=>true) aLB 199=true:=by decide+kernel
noncomputable def aLC:aP:=cF Tryz.f200 [6,6,22,4118,0x100000016,22,0x400000000016,20,6]
theorem aD7:aD Go.Proofs.Tryz.prog (fun _=>true) aLC 200=true:=by decide+kernel
noncomputable def aLD:aP:=cF Tryz.f201 [6,6,0x200006,6,6,16]
theorem aD8:aD Go.Proofs.Tryz.prog (fun _=>true) aLD 201=true:=by decide+kernel
noncomputable def aLE:aP:=cF Tryz.f202 [14,28,60,60,60,60,12]
theorem aD9:aD Go.Proofs.Tryz.prog (fun _=>true) aLE 202=true:=by decide+kernel
noncomputable def aLF:aP:=cF Tryz.f203 [7,263,1799,1799,132871,3847,0x80000f07,1799,1799,192]
theorem aEa:aD Go.Proofs.Tryz.prog (fun _=>true) aLF 203=true:=by decide+kernel
noncomputable def aLG:aP:=cF Tryz.f204 [6,16]
theorem aEb:aD Go.Proofs.Tryz.prog (fun _=>true) aLG 204=true:=by decide+kernel
noncomputable def aLH:aP:=cF Tryz.f205 [12,76,1100,48,48]
theorem aEc:aD Go.Proofs.Tryz.prog (fun _=>true) aLH 205=true:=by decide+kernel
noncomputable def aLI:aP:=cF Tryz.f206 [28,220,65756,48,0x10001c,48,284,272,48]
theorem aEd:aD Go.Proofs.Tryz.prog (fun _=>true) aLI 206=true:=by decide+kernel
noncomputable def Y7:aP:=cF Tryz.f207 [6,6,4]
theorem aEe:aD Go.Proofs.Tryz.prog (fun _=>true) Y7 207=true:=by decide+kernel
noncomputable def aLJ:aP:=cF Tryz.f208 [42,42,0x10002a,42,42,106,106,0x2000000006a,0x2000000000000006a,106,0x800000000000000006a,104,42,106,0]
theorem aEf:aD Go.Proofs.Tryz.prog (fun _=>true) aLJ 208=true:=by decide+kernel
noncomputable def aLK:aP:=cF Tryz.f210 [28,4124,52,0x40000030,48,16,0x800000001c,84,80,16,152,144,16]
theorem aEg:aD Go.Proofs.Tryz.prog (fun _=>true) aLK 210=true:=by decide+kernel
noncomputable def aEh:aP:=cF Tryz.f211 [3,387,387,899,419,65955,16,387,16]
theorem aEi:aD Go.Proofs.Tryz.prog (fun _=>true) aEh 211=true:=by decide+kernel
noncomputable def aLL:aP:=cF Tryz.f212 [3,387,387,899,419,65955,16,387,16]
theorem aEj:aD Go.Proofs.Tryz.prog (fun _=>true) aLL 212=true:=by decide+kernel
noncomputable def aLM:aP:=cF Tryz.f213 [19,275,48,83,48]
theorem aEk:aD Go.Proofs.Tryz.prog (fun _=>true) aLM 213=true:=by decide+kernel
noncomputable def aLN:aP:=cF Tryz.f214 [19,275,48,83,48]
theorem aEl:aD Go.Proofs.Tryz.prog (fun _=>true) aLN 214=true:=by decide+kernel
noncomputable def aLO:aP:=cF Tryz.f216 [3,16]
theorem aEm:aD Go.Proofs.Tryz.prog (fun _=>true) aLO 216=true:=by decide+kernel
noncomputable def aLP:aP:=cF Tryz.f217 [6,8]
theorem aEn:aD Go.Proofs.Tryz.prog (fun _=>true) aLP 217=true:=by decide+kernel
noncomputable def aLQ:aP:=cF Tryz.f218 [14,46,4142,28,524302,28,206,0x2000000ce,28,460,396,396,28]
theorem aEo:aD Go.Proofs.Tryz.prog (fun _=>true) aLQ 218=true:=by decide+kernel
noncomputable def aLR:aP:=cF Tryz.f219 [6,8]
theorem aEp:aD Go.Proofs.Tryz.prog (fun _=>true) aLR 219=true:=by decide+kernel
noncomputable def aAX:aP:=cF Tryz.f220 [6,4]
theorem aEq:aD Go.Proofs.Tryz.prog (fun _=>true) aAX 220=true:=by decide+kernel
noncomputable def aLS:aP:=cF Tryz.f221 [3,16]
theorem aEr:aD Go.Proofs.Tryz.prog (fun _=>true) aLS 221=true:=by decide+kernel
noncomputable def aLT:aP:=cF Tryz.f222 [42,0]
theorem aEs:aD Go.Proofs.Tryz.prog (fun _=>true) aLT 222=true:=by decide+kernel
noncomputable def aLU:aP:=cF Tryz.f223 [28,60,0x200030,48,16]
theorem aEt:aD Go.Proofs.Tryz.prog (fun _=>true) aLU 223=true:=by decide+kernel
noncomputable def aLV:aP:=cF Tryz.f224 [78,0x100004c,192,328,0x200000140,320,192]
theorem aEu:aD Go.Proofs.Tryz.prog (fun _=>true) aLV 224=true:=by decide+kernel
noncomputable def aLW:aP:=cF Tryz.f225 [113,0x2000071,192,0x8000070,192,192]
theorem aEv:aD Go.Proofs.Tryz.prog (fun _=>true) aLW 225=true:=by decide+kernel
noncomputable def aLX:aP:=cF Tryz.f226 [3,387,387,899,419,65955,16,387,16]
theorem aEw:aD Go.Proofs.Tryz.prog (fun _=>true) aLX 226=true:=by decide+kernel
noncomputable def aLY:aP:=cF Tryz.f227 [1,17,12]
theorem aEx:aD Go.Proofs.Tryz.prog (fun _=>true) aLY 227=true:=by decide+kernel
end Go.Proofs.YticklbjcnimggaaGreat
