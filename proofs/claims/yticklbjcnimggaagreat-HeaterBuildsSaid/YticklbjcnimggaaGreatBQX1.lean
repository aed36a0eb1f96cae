/- The seat's functions as the logical machine runs them (reckoned), and the look at each of them. Printed by a program. -/
import Derived.Test.YticklbjcnimggaaGreatBVm2
import Derived.Test.YticklbjcnimggaaGreatProg
set_option maxRecDepth 100000
namespace Go.Proofs.YticklbjcnimggaaGreat
open Go.Vm
abbrev md:FuncId->CM:=aRu [26,56,57,58,79,106,111,138] [184,207,211,220] [126,154,175,198,200,201,208,222]
abbrev mdX (l:List FuncId) (f:FuncId):CM:=bif has l f then .pur else md f
noncomputable abbrev cF (fn:Go.Func) (ks:List Nat):aN:=aOY Go.Proofs.Tryz.prog fn ⟨md,ks,[],[]⟩
noncomputable abbrev cG (fn:Go.Func) (m:FuncId->CM) (ks:List Nat) (a:List (Nat×List (Nat×Nat))) (b:List (Nat×List (Nat×Option Nat))):aN:=aOY Go.Proofs.Tryz.prog fn ⟨m,ks,a,b⟩
noncomputable def x5:aN:=cF Tryz.f5 [56,0x1000038,64,440,1952,8096,32672,130976,524192,64]
theorem aO5:aC Go.Proofs.Tryz.prog (fun _=>true) x5 5=true:=by decide+kernel
noncomputable def x6:aN:=cF Tryz.f6 [2,4]
theorem aO6:aC Go.Proofs.Tryz.prog (fun _=>true) x6 6=true:=by decide+kernel
noncomputable def x10:aN:=cF Tryz.f10 [12,16]
theorem aJg:aC Go.Proofs.Tryz.prog (fun _=>true) x10 10=true:=by decide+kernel
noncomputable def x14:aN:=cF Tryz.f14 [3,1027,16,35,35,16419,0x2000023,16,35,16]
theorem aJh:aC Go.Proofs.Tryz.prog (fun _=>true) x14 14=true:=by decide+kernel
noncomputable def x15:aN:=cF Tryz.f15 [2,4]
theorem aJi:aC Go.Proofs.Tryz.prog (fun _=>true) x15 15=true:=by decide+kernel
noncomputable def x16:aN:=cF Tryz.f16 [28,212,32980,48,48]
theorem aJj:aC Go.Proofs.Tryz.prog (fun _=>true) x16 16=true:=by decide+kernel
noncomputable def x17:aN:=cF Tryz.f17 [28,284,48,16412,48,48]
theorem aJk:aC Go.Proofs.Tryz.prog (fun _=>true) x17 17=true:=by decide+kernel
noncomputable def x18:aN:=cF Tryz.f18 [2,18,1042,12,64,12]
theorem aJl:aC Go.Proofs.Tryz.prog (fun _=>true) x18 18=true:=by decide+kernel
noncomputable def x19:aN:=cF Tryz.f19 [2,66,12,12]
theorem aJm:aC Go.Proofs.Tryz.prog (fun _=>true) x19 19=true:=by decide+kernel
noncomputable def x20:aN:=cF Tryz.f20 [2,18,274,12,8194,12,12]
theorem aJn:aC Go.Proofs.Tryz.prog (fun _=>true) x20 20=true:=by decide+kernel
noncomputable def x21:aN:=cF Tryz.f21 [2,66,12,16386,12,12]
theorem aJo:aC Go.Proofs.Tryz.prog (fun _=>true) x21 21=true:=by decide+kernel
noncomputable def x22:aN:=cF Tryz.f22 [2,258,4,26,0x10000000000,4,4]
theorem aJp:aC Go.Proofs.Tryz.prog (fun _=>true) x22 22=true:=by decide+kernel
noncomputable def x23:aN:=cF Tryz.f23 [2,130,4,10,0x8000000,4,4]
theorem aJq:aC Go.Proofs.Tryz.prog (fun _=>true) x23 23=true:=by decide+kernel
noncomputable def x24:aN:=cF Tryz.f24 [2,4]
theorem aJr:aC Go.Proofs.Tryz.prog (fun _=>true) x24 24=true:=by decide+kernel
noncomputable def x25:aN:=cF Tryz.f25 [2,4]
theorem aJs:aC Go.Proofs.Tryz.prog (fun _=>true) x25 25=true:=by decide+kernel
noncomputable def x26:aN:=cF Tryz.f26 [6,4]
theorem aJt:aC Go.Proofs.Tryz.prog (fun _=>true) x26 26=true:=by decide+kernel
noncomputable def x32:aN:=cF Tryz.f32 [28,92,464,0x4001d0,48,48]
theorem aJu:aC Go.Proofs.Tryz.prog (fun _=>true) x32 32=true:=by decide+kernel
noncomputable def x33:aN:=cF Tryz.f33 [12,0x8000000000c,16,44,44,0x100000000002c,0x200000000000002c,16,44,16]
theorem aJv:aC Go.Proofs.Tryz.prog (fun _=>true) x33 33=true:=by decide+kernel
noncomputable def x34:aN:=cF Tryz.f34 [12,524300,16,44,44,0x100002c,0x200000002c,16,44,16]
theorem aJw:aC Go.Proofs.Tryz.prog (fun _=>true) x34 34=true:=by decide+kernel
noncomputable def x35:aN:=cF Tryz.f35 [2,0x100000,4,4]
theorem aJx:aC Go.Proofs.Tryz.prog (fun _=>true) x35 35=true:=by decide+kernel
noncomputable def x36:aN:=cF Tryz.f36 [12,76,4172,48,0x10000c,48,132,0x8000000080,128,48]
theorem aJy:aC Go.Proofs.Tryz.prog (fun _=>true) x36 36=true:=by decide+kernel
noncomputable def x38:aN:=cF Tryz.f38 [28,220,848,0x2000350,48,48]
theorem aJz:aC Go.Proofs.Tryz.prog (fun _=>true) x38 38=true:=by decide+kernel
noncomputable def x40:aN:=cG Tryz.f40 md [28,80,336,0x30000150,0x30000150,0x70000150,0x30000350,0x30000150,0x30000150,0xe000000150,0xe000000150,0x1e000000150,0xe000000d50,0x300e000000550,0x300e000000550,0x700e000000550,0x300e000002550,0x2300e000002550,0x300e000000550,0x300e000000550,0xe000000150,16720,0xe000000000004150,0xe000000000004150,0x1e000000000004150,0xe00000000001c150,0x100e00000000001c150,0xe000000000004150,0xe000000000004150,48] [(3,[(14,2)])] []
theorem aJA:aC Go.Proofs.Tryz.prog (fun _=>true) x40 40=true:=by decide+kernel
noncomputable def x43:aN:=cF Tryz.f43 [28,92,8284,48,156,524444,48,796,48]
theorem aJB:aC Go.Proofs.Tryz.prog (fun _=>true) x43 43=true:=by decide+kernel
noncomputable def x44:aN:=cF Tryz.f44 [2,258,4,10,10,8202,0x40000a,4,10,18,18,0x8000012,0x80000000012,4,18,4]
theorem aJC:aC Go.Proofs.Tryz.prog (fun _=>true) x44 44=true:=by decide+kernel
noncomputable def x45:aN:=cF Tryz.f45 [2,0x100000,4,4]
theorem aJD:aC Go.Proofs.Tryz.prog (fun _=>true) x45 45=true:=by decide+kernel
noncomputable def x46:aN:=cF Tryz.f46 [28,16]
theorem aJE:aC Go.Proofs.Tryz.prog (fun _=>true) x46 46=true:=by decide+kernel
noncomputable def x47:aN:=cG Tryz.f47 md [2,10,26,26,1050,58,58,131130,0x200000003a,58,58,26,4] [(0,[(3,2)]),(1,[(3,2)])] []
theorem aJF:aC Go.Proofs.Tryz.prog (fun _=>true) x47 47=true:=by decide+kernel
noncomputable def x48:aN:=cF Tryz.f48 [12,44,108,108,32876,108,108,16]
theorem aJG:aC Go.Proofs.Tryz.prog (fun _=>true) x48 48=true:=by decide+kernel
noncomputable def x49:aN:=cF Tryz.f49 [2,0x7000002,0x7000002,0xf000002,0x7000012,0x87000002,4,0x7000002,0x800000000002,4,34,0x70000000000022,0x70000000000022,0xf0000000000022,0x700000000000a2,0x700000000007a2,0x4000700000000003a2,4,0x10000700000000001a2,0x10000000700000000001a2,4,0x700000000009a2,0x40000000000000000070000000000022,4,0x70000000000022,0x70000000000022,0x1000000000000000000000000000000000,4,4]
theorem aJH:aC Go.Proofs.Tryz.prog (fun _=>true) x49 49=true:=by decide+kernel
noncomputable def x50:aN:=cF Tryz.f50 [3,1027,16,12291,12291,28675,12323,0x1003003,16,12291,16]
theorem aJI:aC Go.Proofs.Tryz.prog (fun _=>true) x50 50=true:=by decide+kernel
noncomputable def x51:aN:=cF Tryz.f51 [12,44,16]
theorem aJJ:aC Go.Proofs.Tryz.prog (fun _=>true) x51 51=true:=by decide+kernel
noncomputable def x52:aN:=cF Tryz.f52 [2,0x100000000000002,4,10,26,26,0x400000000000001a,58,250,0x40000000000000000007a,0x400000000000000000000007a,4,890,0x2000000000000000000000000000001a,4,26,26,0x1000000000000000000000000000000000,4,4]
theorem aJK:aC Go.Proofs.Tryz.prog (fun _=>true) x52 52=true:=by decide+kernel
noncomputable def x53:aN:=cF Tryz.f53 [28,16]
theorem aJL:aC Go.Proofs.Tryz.prog (fun _=>true) x53 53=true:=by decide+kernel
noncomputable def x54:aN:=cF Tryz.f54 [6,4102,16,38,38,65574,0x4000000026,16,38,16]
theorem aJM:aC Go.Proofs.Tryz.prog (fun _=>true) x54 54=true:=by decide+kernel
noncomputable def x55:aN:=cF Tryz.f55 [2,4]
theorem aJN:aC Go.Proofs.Tryz.prog (fun _=>true) x55 55=true:=by decide+kernel
noncomputable def x56:aN:=cF Tryz.f56 [6,4]
theorem aJO:aC Go.Proofs.Tryz.prog (fun _=>true) x56 56=true:=by decide+kernel
noncomputable def x57:aN:=cF Tryz.f57 [6,4]
theorem aJP:aC Go.Proofs.Tryz.prog (fun _=>true) x57 57=true:=by decide+kernel
noncomputable def x58:aN:=cF Tryz.f58 [6,4]
theorem aJQ:aC Go.Proofs.Tryz.prog (fun _=>true) x58 58=true:=by decide+kernel
noncomputable def x59:aN:=cG Tryz.f59 md [28,92,524380,48,156,412,0x700019c,0x700019c,0xf00019c,0x700079c,0x7000f9c,0x7000f9c,0x1007000f9c,0x7001f9c,0x7003f9c,0x40000007001f9c,0x7000f9c,0x10000000007000b9c,0x7000b9c,0x7000b9c,0x700019c,0x700019c,48] [(0,[(8,1)])] [(0,[(7,some 2003),(1000008,none)]),(1,[(1000008,none)])]
theorem aJR:aC Go.Proofs.Tryz.prog (fun _=>true) x59 59=true:=by decide+kernel
noncomputable def x60:aN:=cF Tryz.f60 [92,348,0x80015c,192,604,0x2000025c,192,0x70000005c,0x70000005c,0xf0000005c,0x70000085c,0x400000070000005c,192,0x70000005c,0xe000000000000005c,0xe000000000000005c,0x1e000000000000005c,0xe000000000000305c,0x100e000000000000005c,192,0xe000000000000005c,0x38000000000000000005c,0x38000000000000000005c,0x78000000000000000005c,0x38000000000000000805c,0x38000000000000002805c,0x3800000000000000a005c,0x10000038000000000000000005c,192,0x38000000000000000005c,192]
theorem aJS:aC Go.Proofs.Tryz.prog (fun _=>true) x60 60=true:=by decide+kernel
noncomputable def x62:aN:=cF Tryz.f62 [6,70,4166,48,384,0x200080,48,48]
theorem aJT:aC Go.Proofs.Tryz.prog (fun _=>true) x62 62=true:=by decide+kernel
noncomputable def x65:aN:=cF Tryz.f65 [6,38,38,1062,0x100026,16,38,16]
theorem aJU:aC Go.Proofs.Tryz.prog (fun _=>true) x65 65=true:=by decide+kernel
noncomputable def x67:aN:=cG Tryz.f67 (mdX [26]) [92,348,860,860,0x80035c,0x80000035c,860,860,0x2000000000154,3396,0x200000000000d44,192,324,4420,4420,0x10000000000001144,0x2000000000000001144,45380,0x200000000000000000b144,192,4420,4420,192] [] []
theorem aJV:aC Go.Proofs.Tryz.prog (fun _=>true) x67 67=true:=by decide+kernel
noncomputable def x68:aN:=cF Tryz.f68 [12,4108,16,44,44,131116,0x4000002c,16,44,16]
theorem aJW:aC Go.Proofs.Tryz.prog (fun _=>true) x68 68=true:=by decide+kernel
noncomputable def x69:aN:=cF Tryz.f69 [12,524300,16,44,44,0x100002c,0x200000002c,16,44,16]
theorem aJX:aC Go.Proofs.Tryz.prog (fun _=>true) x69 69=true:=by decide+kernel
noncomputable def x70:aN:=cF Tryz.f70 [12,0x1000000c,16,44,44,0x20000002c,0x40000000002c,16,44,16]
theorem aJY:aC Go.Proofs.Tryz.prog (fun _=>true) x70 70=true:=by decide+kernel
noncomputable def x71:aN:=cF Tryz.f71 [3,3,67,3,16]
theorem aJZ:aC Go.Proofs.Tryz.prog (fun _=>true) x71 71=true:=by decide+kernel
noncomputable def x72:aN:=cF Tryz.f72 [1,17,4,4]
theorem aJ0:aC Go.Proofs.Tryz.prog (fun _=>true) x72 72=true:=by decide+kernel
noncomputable def x73:aN:=cF Tryz.f73 [12,16]
theorem aJ1:aC Go.Proofs.Tryz.prog (fun _=>true) x73 73=true:=by decide+kernel
noncomputable def x74:aN:=cF Tryz.f74 [3,35,99,2115,4096,16,16,8195,16,65539,16,524288,16,16]
theorem aJ2:aC Go.Proofs.Tryz.prog (fun _=>true) x74 74=true:=by decide+kernel
noncomputable def x75:aN:=cF Tryz.f75 [12,44,4140,16,16]
theorem aJ3:aC Go.Proofs.Tryz.prog (fun _=>true) x75 75=true:=by decide+kernel
noncomputable def x76:aN:=cF Tryz.f76 [19,115,16]
theorem aJ4:aC Go.Proofs.Tryz.prog (fun _=>true) x76 76=true:=by decide+kernel
noncomputable def x78:aN:=cF Tryz.f78 [54,950,0x20003b6,112,1462,1334,7476,0x10000000d34,44336,0x8000000000ad30,112,1328,112]
theorem aJ5:aC Go.Proofs.Tryz.prog (fun _=>true) x78 78=true:=by decide+kernel
noncomputable def x79:aN:=cF Tryz.f79 [6,6,6,14,6,4]
theorem aJ6:aC Go.Proofs.Tryz.prog (fun _=>true) x79 79=true:=by decide+kernel
noncomputable def x80:aN:=cF Tryz.f80 [12,96,0x200060,0x4000000,16,16,0x20000060,16,16]
theorem aJ7:aC Go.Proofs.Tryz.prog (fun _=>true) x80 80=true:=by decide+kernel
noncomputable def x84:aN:=cF Tryz.f84 [2,2050,4,57346,57346,122882,57362,57378,0x40e022,4,57346,0x1c000002,0x1c000002,0x3c000002,0x1c0000c2,0x40001c000002,4,0x1c000002,4]
theorem aJ8:aC Go.Proofs.Tryz.prog (fun _=>true) x84 84=true:=by decide+kernel
noncomputable def x85:aN:=cF Tryz.f85 [5,53,4149,12,12]
theorem aJ9:aC Go.Proofs.Tryz.prog (fun _=>true) x85 85=true:=by decide+kernel
noncomputable def x86:aN:=cF Tryz.f86 [2,0x40000000,4,4]
theorem aKa:aC Go.Proofs.Tryz.prog (fun _=>true) x86 86=true:=by decide+kernel
noncomputable def x87:aN:=cF Tryz.f87 [3,3,67,3,16]
theorem aKb:aC Go.Proofs.Tryz.prog (fun _=>true) x87 87=true:=by decide+kernel
noncomputable def x88:aN:=cF Tryz.f88 [1,17,4,4]
theorem aKc:aC Go.Proofs.Tryz.prog (fun _=>true) x88 88=true:=by decide+kernel
noncomputable def x89:aN:=cG Tryz.f89 md [5,13,29,29,1053,29,29,4] [] [(0,[(3,some 5001)])]
theorem aKd:aC Go.Proofs.Tryz.prog (fun _=>true) x89 89=true:=by decide+kernel
noncomputable def x90:aN:=cF Tryz.f90 [56,184,440,440,8632,0x4000001b8,440,440,64]
theorem aKe:aC Go.Proofs.Tryz.prog (fun _=>true) x90 90=true:=by decide+kernel
noncomputable def x91:aN:=cF Tryz.f91 [2,0x100002,4,26,0x380001a,0x380001a,0x780001a,0x380005a,0x800000380004a,4,0x380001a,0x380001a,4]
theorem aKf:aC Go.Proofs.Tryz.prog (fun _=>true) x91 91=true:=by decide+kernel
noncomputable def x92:aN:=cF Tryz.f92 [2,0x1000000002,4,0x1c000000002,0x1c000000002,0x3c000000002,0x1c00000001a,0x801c00000001a,0x2001c000000002,4,0x8000000001c000000002,4,0x1c000000002,34,0x3800000000000000000022,0x3800000000000000000022,0x7800000000000000000022,0x38000000000000000000e2,0x20000038000000000000000000e2,4,0x38000000000000000000e2,0x40000000003800000000000000000022,4,0x3800000000000000000022,4]
theorem aKg:aC Go.Proofs.Tryz.prog (fun _=>true) x92 92=true:=by decide+kernel
noncomputable def x93:aN:=cF Tryz.f93 [120,448]
theorem aKh:aC Go.Proofs.Tryz.prog (fun _=>true) x93 93=true:=by decide+kernel
noncomputable def x94:aN:=cF Tryz.f94 [6,8]
theorem aKi:aC Go.Proofs.Tryz.prog (fun _=>true) x94 94=true:=by decide+kernel
noncomputable def x95:aN:=cF Tryz.f95 [9,16]
theorem aKj:aC Go.Proofs.Tryz.prog (fun _=>true) x95 95=true:=by decide+kernel
noncomputable def x96:aN:=cF Tryz.f96 [3,16]
theorem aKk:aC Go.Proofs.Tryz.prog (fun _=>true) x96 96=true:=by decide+kernel
noncomputable def x97:aN:=cF Tryz.f97 [2,524290,4,10,10,0x100000a,26,0x800000000000001a,4,58,58,0x4000000000000003a,0x2000000000000000003a,4,58,10,4]
theorem aKl:aC Go.Proofs.Tryz.prog (fun _=>true) x97 97=true:=by decide+kernel
noncomputable def x98:aN:=cF Tryz.f98 [12,44,44,1068,0x40000002c,16,44,16]
theorem aKm:aC Go.Proofs.Tryz.prog (fun _=>true) x98 98=true:=by decide+kernel
noncomputable def x99:aN:=cF Tryz.f99 [2,32770,4,10,10,0x10000a,26,0x2000000001a,4,58,58,0x10000000003a,0x8000000000003a,4,58,10,66,66,0x1000000000000042,0x8000000000000000042,4,66,4]
theorem aKn:aC Go.Proofs.Tryz.prog (fun _=>true) x99 99=true:=by decide+kernel
noncomputable def aKo:aN:=cF Tryz.f100 [120,192]
theorem aCG:aC Go.Proofs.Tryz.prog (fun _=>true) aKo 100=true:=by decide+kernel
noncomputable def aKp:aN:=cF Tryz.f101 [28,284,48,16412,48,48]
theorem aCH:aC Go.Proofs.Tryz.prog (fun _=>true) aKp 101=true:=by decide+kernel
noncomputable def aKq:aN:=cG Tryz.f102 md [28,60,124,124,2172,124,124,48,16] [] [(0,[(5,some 2003)])]
theorem aCI:aC Go.Proofs.Tryz.prog (fun _=>true) aKq 102=true:=by decide+kernel
noncomputable def aKr:aN:=cF Tryz.f103 [12,44,44,1068,0x10002c,16,44,16]
theorem aCJ:aC Go.Proofs.Tryz.prog (fun _=>true) aKr 103=true:=by decide+kernel
noncomputable def aKs:aN:=cF Tryz.f104 [56,64]
theorem aCK:aC Go.Proofs.Tryz.prog (fun _=>true) aKs 104=true:=by decide+kernel
noncomputable def aKt:aN:=cF Tryz.f105 [2,4]
theorem aCL:aC Go.Proofs.Tryz.prog (fun _=>true) aKt 105=true:=by decide+kernel
noncomputable def aKu:aN:=cF Tryz.f106 [6,4]
theorem aCM:aC Go.Proofs.Tryz.prog (fun _=>true) aKu 106=true:=by decide+kernel
noncomputable def aKv:aN:=cF Tryz.f107 [12,40,552,16,16]
theorem aCN:aC Go.Proofs.Tryz.prog (fun _=>true) aKv 107=true:=by decide+kernel
noncomputable def aKw:aN:=cF Tryz.f108 [56,312,16696,192,192]
theorem aCO:aC Go.Proofs.Tryz.prog (fun _=>true) aKw 108=true:=by decide+kernel
noncomputable def aKx:aN:=cF Tryz.f109 [22,212,32980,48,48]
theorem aCP:aC Go.Proofs.Tryz.prog (fun _=>true) aKx 109=true:=by decide+kernel
noncomputable def aKy:aN:=cF Tryz.f110 [92,229468,229468,491612,229980,0x203825c,229468,229468,92,0x1000000005c,1100,0x100000000044c,192,0x38000000000048,0x38000000000048,0x78000000000048,0x38000000001048,0x2038000000001048,0x38000000000448,0x400038000000000448,192,0x38000000000048,192]
theorem aCQ:aC Go.Proofs.Tryz.prog (fun _=>true) aKy 110=true:=by decide+kernel
noncomputable def aKz:aN:=cF Tryz.f111 [6,6,6,6,14,14,6,4]
theorem aCR:aC Go.Proofs.Tryz.prog (fun _=>true) aKz 111=true:=by decide+kernel
noncomputable def aKA:aN:=cF Tryz.f112 [6,48]
theorem aCS:aC Go.Proofs.Tryz.prog (fun _=>true) aKA 112=true:=by decide+kernel
noncomputable def aKB:aN:=cF Tryz.f113 [9,41,41,553,131113,16,41,16]
theorem aCT:aC Go.Proofs.Tryz.prog (fun _=>true) aKB 113=true:=by decide+kernel
noncomputable def aKC:aN:=cF Tryz.f114 [22,54,54,116,262260,116,48,16]
theorem aCU:aC Go.Proofs.Tryz.prog (fun _=>true) aKC 114=true:=by decide+kernel
noncomputable def aKD:aN:=cG Tryz.f115 (mdX [26,56]) [28,92,92,92,220,220,0x20000dc,476,988,4060,0x8000000000fdc,4060,4060,0x40000000000000000fdc,4060,0x4000000000000000000005dc,0x80000000000000000000005dc,48,12764,8668,220,220,48] [] [(0,[(6,some 11003)])]
theorem aCV:aC Go.Proofs.Tryz.prog (fun _=>true) aKD 115=true:=by decide+kernel
noncomputable def aKE:aN:=cF Tryz.f116 [28,924,0x100039c,112,1436,1308,7444,0x20000000d14,112,0x1000000000d14,112,25872,17680,1296,112]
theorem aCW:aC Go.Proofs.Tryz.prog (fun _=>true) aKE 116=true:=by decide+kernel
noncomputable def aKF:aN:=cF Tryz.f117 [12,16]
theorem aCX:aC Go.Proofs.Tryz.prog (fun _=>true) aKF 117=true:=by decide+kernel
noncomputable def aKG:aN:=cF Tryz.f118 [3,1027,16,35,35,16419,0x2000023,16,35,16]
theorem aCY:aC Go.Proofs.Tryz.prog (fun _=>true) aKG 118=true:=by decide+kernel
noncomputable def aKH:aN:=cF Tryz.f119 [1,4]
theorem aCZ:aC Go.Proofs.Tryz.prog (fun _=>true) aKH 119=true:=by decide+kernel
noncomputable def aKI:aN:=cF Tryz.f120 [3,35,99,2115,4096,16,16,8195,16,65539,16,524288,16,16]
theorem aC0:aC Go.Proofs.Tryz.prog (fun _=>true) aKI 120=true:=by decide+kernel
noncomputable def aKJ:aN:=cF Tryz.f121 [3,67,195,451,963,1987,2755,6851,12995,12931,19,48]
theorem aC1:aC Go.Proofs.Tryz.prog (fun _=>true) aKJ 121=true:=by decide+kernel
noncomputable def aKK:aN:=cF Tryz.f123 [54,436,65972,112,112]
theorem aC2:aC Go.Proofs.Tryz.prog (fun _=>true) aKK 123=true:=by decide+kernel
noncomputable def aKL:aN:=cF Tryz.f124 [3,48]
theorem aC3:aC Go.Proofs.Tryz.prog (fun _=>true) aKL 124=true:=by decide+kernel
noncomputable def aKM:aN:=cF Tryz.f125 [60,436,65972,112,112]
theorem aC4:aC Go.Proofs.Tryz.prog (fun _=>true) aKM 125=true:=by decide+kernel
noncomputable def aKN:aN:=cF Tryz.f126 [7,7,65543,64,135,129,1,64]
theorem aC5:aC Go.Proofs.Tryz.prog (fun _=>true) aKN 126=true:=by decide+kernel
noncomputable def aKO:aN:=cF Tryz.f132 [19,51,48,16]
theorem aC6:aC Go.Proofs.Tryz.prog (fun _=>true) aKO 132=true:=by decide+kernel
noncomputable def aKP:aN:=cF Tryz.f133 [2,1026,4,4096,4,4]
theorem aC7:aC Go.Proofs.Tryz.prog (fun _=>true) aKP 133=true:=by decide+kernel
noncomputable def aKQ:aN:=cF Tryz.f134 [12,524,16384,16,16,524300,0x1000000,16,16,16]
theorem aC8:aC Go.Proofs.Tryz.prog (fun _=>true) aKQ 134=true:=by decide+kernel
noncomputable def aKR:aN:=cF Tryz.f136 [2,10,0x800000,4,4]
theorem aC9:aC Go.Proofs.Tryz.prog (fun _=>true) aKR 136=true:=by decide+kernel
noncomputable def aKS:aN:=cF Tryz.f137 [5,2053,12,21,0x300015,0x300015,0x700015,0x300035,0x300015,0x300015,12]
theorem aDa:aC Go.Proofs.Tryz.prog (fun _=>true) aKS 137=true:=by decide+kernel
noncomputable def aKT:aN:=cF Tryz.f138 [3,1027,3,97,0x4000041,65,129,384,384,0x2000000180,384,16]
theorem aDb:aC Go.Proofs.Tryz.prog (fun _=>true) aKT 138=true:=by decide+kernel
noncomputable def aKU:aN:=cG Tryz.f139 md [5,13,28,28,8220,28,28,4] [] [(0,[(3,some 3001)])]
theorem aDc:aC Go.Proofs.Tryz.prog (fun _=>true) aKU 139=true:=by decide+kernel
noncomputable def aKV:aN:=cF Tryz.f140 [56,152,8344,64,0x100018,64,64]
theorem aDd:aC Go.Proofs.Tryz.prog (fun _=>true) aKV 140=true:=by decide+kernel
noncomputable def aKW:aN:=cF Tryz.f141 [2,4]
theorem aDe:aC Go.Proofs.Tryz.prog (fun _=>true) aKW 141=true:=by decide+kernel
noncomputable def aKX:aN:=cF Tryz.f142 [2,10,0x80000a,4,26,50,0x800000002,4,0xe000000002,0xe000000002,0x1e000000002,0xe0000000c2,0x100000e000000002,4,0xe000000002,4]
theorem aDf:aC Go.Proofs.Tryz.prog (fun _=>true) aKX 142=true:=by decide+kernel
noncomputable def aKY:aN:=cF Tryz.f143 [12,44,16]
theorem aDg:aC Go.Proofs.Tryz.prog (fun _=>true) aKY 143=true:=by decide+kernel
noncomputable def aKZ:aN:=cF Tryz.f144 [120,632,131704,448,0x1000078,448,0x40000058,448,3136,448]
theorem aDh:aC Go.Proofs.Tryz.prog (fun _=>true) aKZ 144=true:=by decide+kernel
noncomputable def aK0:aN:=cF Tryz.f145 [22,116,32820,16,16]
theorem aDi:aC Go.Proofs.Tryz.prog (fun _=>true) aK0 145=true:=by decide+kernel
noncomputable def aK1:aN:=cF Tryz.f146 [9,393,393,905,425,65961,16,393,16]
theorem aDj:aC Go.Proofs.Tryz.prog (fun _=>true) aK1 146=true:=by decide+kernel
noncomputable def aK2:aN:=cF Tryz.f147 [3,387,387,899,419,65955,16,387,16]
theorem aDk:aC Go.Proofs.Tryz.prog (fun _=>true) aK2 147=true:=by decide+kernel
noncomputable def aK3:aN:=cF Tryz.f148 [2,4]
theorem aDl:aC Go.Proofs.Tryz.prog (fun _=>true) aK3 148=true:=by decide+kernel
noncomputable def aK4:aN:=cF Tryz.f149 [2,10,0x2000000a,4,26,58,58,0x100000003a,0x800000000000003a,4,58,58,90,90,0x200000000000000005a,0x10000000000000000000000000005a,4,90,4]
theorem aDm:aC Go.Proofs.Tryz.prog (fun _=>true) aK4 149=true:=by decide+kernel
noncomputable def aK5:aN:=cF Tryz.f150 [2,10,0x400000a,4,26,26,0x2000001a,0x400000001a,0x10000000001a,4,58,0x20000000000000000001a,4,26,4]
theorem aDn:aC Go.Proofs.Tryz.prog (fun _=>true) aK5 150=true:=by decide+kernel
noncomputable def aK6:aN:=cF Tryz.f151 [12,44,16]
theorem aDo:aC Go.Proofs.Tryz.prog (fun _=>true) aK6 151=true:=by decide+kernel
noncomputable def aK7:aN:=cF Tryz.f152 [120,2168,192,131160,192,192]
theorem aDp:aC Go.Proofs.Tryz.prog (fun _=>true) aK7 152=true:=by decide+kernel
noncomputable def aK8:aN:=cF Tryz.f153 [12,16]
theorem aDq:aC Go.Proofs.Tryz.prog (fun _=>true) aK8 153=true:=by decide+kernel
noncomputable def aK9:aN:=cF Tryz.f154 [248,2296,264440,2288,2048,1024]
theorem aDr:aC Go.Proofs.Tryz.prog (fun _=>true) aK9 154=true:=by decide+kernel
noncomputable def aLa:aN:=cF Tryz.f155 [56,152,65688,64,0x400000,64,64]
theorem aDs:aC Go.Proofs.Tryz.prog (fun _=>true) aLa 155=true:=by decide+kernel
noncomputable def aLb:aN:=cF Tryz.f156 [56,152,0x10000098,0x80000000,64,64,64]
theorem aDt:aC Go.Proofs.Tryz.prog (fun _=>true) aLb 156=true:=by decide+kernel
noncomputable def aLc:aN:=cF Tryz.f157 [22,86,8278,48,656,48]
theorem aDu:aC Go.Proofs.Tryz.prog (fun _=>true) aLc 157=true:=by decide+kernel
noncomputable def aLd:aN:=cF Tryz.f158 [3,1027,16,12291,12291,28675,12323,0x1003003,16,12291,16]
theorem aDv:aC Go.Proofs.Tryz.prog (fun _=>true) aLd 158=true:=by decide+kernel
noncomputable def aLe:aN:=cG Tryz.f159 (mdX [79]) [28,92,0x40005c,48,156,0x1000009c,48,0xe0000001c,0xe0000001c,0x1e0000001c,0xe0000021c,0x40000e0000001c,48,0xe0000001c,1052,1052,0x38000000000000041c,0x38000000000000041c,0x78000000000000041c,0x38000000000000141c,0x38000000000000f41c,0x38000000000003f41c,0x8000038000000000003f41c,0x38000000000001841c,0x38000000000000841c,0x100000000000038000000000003b41c,0x38000000000004341c,0x38000000000004341c,0x38000000000004841c,0x38000000000000841c,0x80000000000000000038000000000001841c,0x38000000000000841c,0x1000000000000000000000038000000000000841c,48,0x38000000000000041c,48] [] [(1,[(10,some 11003)])]
theorem aDw:aC Go.Proofs.Tryz.prog (fun _=>true) aLe 159=true:=by decide+kernel
noncomputable def aLf:aN:=cF Tryz.f160 [6,8]
theorem aDx:aC Go.Proofs.Tryz.prog (fun _=>true) aLf 160=true:=by decide+kernel
noncomputable def aLg:aN:=cF Tryz.f161 [28,156,412,0x20019c,112,3740,0x2000000e9c,112,0x800000000000e9c,112,0x40000000000000e9c,112,5788,5276,31892,0x10000000000000000007c94,112,0x800000000000000000003494,234640,0x400000000000000000000039490,112,5136,112]
theorem aDy:aC Go.Proofs.Tryz.prog (fun _=>true) aLg 161=true:=by decide+kernel
noncomputable def aLh:aN:=cF Tryz.f162 [7,263,1799,1799,132871,3847,0x80000f07,1799,1799,192]
theorem aDz:aC Go.Proofs.Tryz.prog (fun _=>true) aLh 162=true:=by decide+kernel
noncomputable def aLi:aN:=cF Tryz.f163 [6,16]
theorem aDA:aC Go.Proofs.Tryz.prog (fun _=>true) aLi 163=true:=by decide+kernel
noncomputable def aLj:aN:=cF Tryz.f164 [3,35,99,2115,4096,16,16,8195,16,65539,16,524288,16,16]
theorem aDB:aC Go.Proofs.Tryz.prog (fun _=>true) aLj 164=true:=by decide+kernel
noncomputable def aLk:aN:=cG Tryz.f165 md [22,54,118,118,16502,0x1000076,118,118,16] [] [(0,[(5,some 2003)])]
theorem aDC:aC Go.Proofs.Tryz.prog (fun _=>true) aLk 165=true:=by decide+kernel
noncomputable def aLl:aN:=cF Tryz.f166 [6,38,38,1062,0x100026,16,38,16]
theorem aDD:aC Go.Proofs.Tryz.prog (fun _=>true) aLl 166=true:=by decide+kernel
noncomputable def aLm:aN:=cF Tryz.f167 [28,56,248,0x4000f8,248,248,248,240,0x100000000070,48,16]
theorem aDE:aC Go.Proofs.Tryz.prog (fun _=>true) aLm 167=true:=by decide+kernel
noncomputable def aLn:aN:=cF Tryz.f168 [120,240,480,448,192,64]
theorem aDF:aC Go.Proofs.Tryz.prog (fun _=>true) aLn 168=true:=by decide+kernel
noncomputable def aLo:aN:=cF Tryz.f169 [2,10,4]
theorem aDG:aC Go.Proofs.Tryz.prog (fun _=>true) aLo 169=true:=by decide+kernel
noncomputable def aLp:aN:=cF Tryz.f170 [220,468,2004,1492,1472,1472,1472,192]
theorem aDH:aC Go.Proofs.Tryz.prog (fun _=>true) aLp 170=true:=by decide+kernel
noncomputable def aLq:aN:=cF Tryz.f171 [28,32796,112,524316,112,0x2000001c,112,156,148,148,112]
theorem aDI:aC Go.Proofs.Tryz.prog (fun _=>true) aLq 171=true:=by decide+kernel
noncomputable def aLr:aN:=cF Tryz.f172 [3,1027,16,35,35,16419,0x2000023,16,35,16]
theorem aDJ:aC Go.Proofs.Tryz.prog (fun _=>true) aLr 172=true:=by decide+kernel
noncomputable def aLs:aN:=cF Tryz.f173 [1,4]
theorem aDK:aC Go.Proofs.Tryz.prog (fun _=>true) aLs 173=true:=by decide+kernel
noncomputable def aLt:aN:=cF Tryz.f174 [6,70,4166,48,384,0x400080,48,48]
theorem aDL:aC Go.Proofs.Tryz.prog (fun _=>true) aLt 174=true:=by decide+kernel
noncomputable def aLu:aN:=cF Tryz.f175 [7,7,65543,64,135,129,1,64]
theorem aDM:aC Go.Proofs.Tryz.prog (fun _=>true) aLu 175=true:=by decide+kernel
noncomputable def aLv:aN:=cF Tryz.f176 [7,263,1799,1799,132871,3847,0x80000f07,1799,1799,192]
theorem aDN:aC Go.Proofs.Tryz.prog (fun _=>true) aLv 176=true:=by decide+kernel
noncomputable def aLw:aN:=cF Tryz.f177 [6,16]
theorem aDO:aC Go.Proofs.Tryz.prog (fun _=>true) aLw 177=true:=by decide+kernel
noncomputable def aLx:aN:=cF Tryz.f178 [12,76,4172,48,396,0x400000c,48,48]
theorem aDP:aC Go.Proofs.Tryz.prog (fun _=>true) aLx 178=true:=by decide+kernel
noncomputable def aLy:aN:=cF Tryz.f179 [54,182,950,0x80003b6,112,1458,3506,7602,7346,0x2000000000014b2,1200,112]
theorem aDQ:aC Go.Proofs.Tryz.prog (fun _=>true) aLy 179=true:=by decide+kernel
noncomputable def aLz:aN:=cF Tryz.f180 [19,496,1008,1776,3760,16]
theorem aDR:aC Go.Proofs.Tryz.prog (fun _=>true) aLz 180=true:=by decide+kernel
noncomputable def aLA:aN:=cF Tryz.f181 [1,4]
theorem aDS:aC Go.Proofs.Tryz.prog (fun _=>true) aLA 181=true:=by decide+kernel
noncomputable def aLB:aN:=cF Tryz.f182 [3,192,48,768,48]
theorem aDT:aC Go.Proofs.Tryz.prog (fun _=>true) aLB 182=true:=by decide+kernel
noncomputable def aLC:aN:=cF Tryz.f183 [56,64]
theorem aDU:aC Go.Proofs.Tryz.prog (fun _=>true) aLC 183=true:=by decide+kernel
noncomputable def aDV:aN:=cF Tryz.f184 [3,16]
theorem aDW:aC Go.Proofs.Tryz.prog (fun _=>true) aDV 184=true:=by decide+kernel
noncomputable def aDX:aN:=cF Tryz.f185 [7,131077,16,0,16]
theorem aDY:aC Go.Proofs.Tryz.prog (fun _=>true) aDX 185=true:=by decide+kernel
noncomputable def aLD:aN:=cF Tryz.f186 [3,16]
theorem aDZ:aC Go.Proofs.Tryz.prog (fun _=>true) aLD 186=true:=by decide+kernel
noncomputable def aLE:aN:=cF Tryz.f187 [1,9,456,456,968,488,16872,4,456,4]
theorem aD0:aC Go.Proofs.Tryz.prog (fun _=>true) aLE 187=true:=by decide+kernel
noncomputable def aLF:aN:=cF Tryz.f188 [28,92,4188,48,524316,48,48]
theorem aD1:aC Go.Proofs.Tryz.prog (fun _=>true) aLF 188=true:=by decide+kernel
noncomputable def aLG:aN:=cF Tryz.f189 [6,16]
theorem aD2:aC Go.Proofs.Tryz.prog (fun _=>true) aLG 189=true:=by decide+kernel
noncomputable def aLH:aN:=cF Tryz.f190 [28,48,16]
theorem aD3:aC Go.Proofs.Tryz.prog (fun _=>true) aLH 190=true:=by decide+kernel
noncomputable def aLI:aN:=cF Tryz.f191 [60,572,1592,1592,17976,0x100000638,1592,1592,256]
theorem aD4:aC Go.Proofs.Tryz.prog (fun _=>true) aLI 191=true:=by decide+kernel
noncomputable def aLJ:aN:=cF Tryz.f192 [6,14,6156,6156,14348,6188,6380,6572,0x200019ac,6572,0x10000019ac,6540,7948,6156,6156,4]
theorem aD5:aC Go.Proofs.Tryz.prog (fun _=>true) aLJ 192=true:=by decide+kernel
noncomputable def aLK:aN:=cF Tryz.f193 [120,376,524664,192,1640,0x20000668,192,2656,6752,6720,2112,192]
theorem aD6:aC Go.Proofs.Tryz.prog (fun _=>true) aLK 193=true:=by decide+kernel
noncomputable def aLL:aN:=cF Tryz.f194 [248,760,0x2002f8,448,0x400000f8,448,0x10000000f8,448,7416,0x800000001cf8,448,11504,27840,26816,10432,448]
theorem aD7:aC Go.Proofs.Tryz.prog (fun _=>true) aLL 194=true:=by decide+kernel
noncomputable def aLM:aN:=cF Tryz.f195 [5,28]
theorem aD8:aC Go.Proofs.Tryz.prog (fun _=>true) aLM 195=true:=by decide+kernel
noncomputable def aLN:aN:=cF Tryz.f196 [28,156,4252,112,131100,112,0x40001c,112,0x10000001c,112,276,112]
theorem aD9:aC Go.Proofs.Tryz.prog (fun _=>true) aLN 196=true:=by decide+kernel
noncomputable def aLO:aN:=cF Tryz.f197 [1,4]
theorem aEa:aC Go.Proofs.Tryz.prog (fun _=>true) aLO 197=true:=by decide+kernel
noncomputable def aLP:aN:=cF Tryz.f198 [14,14,0]
theorem aEb:aC Go.Proofs.Tryz.prog (fun _=>true) aLP 198=true:=by decide+kernel
noncomputable def aLQ:aN:=cF Tryz.f199 [28,56,56,48,16]
theorem aEc:aC Go.Proofs.Tryz.prog (fun _=>true) aLQ 199=true:=by decide+kernel
noncomputable def aLR:aN:=cF Tryz.f200 [6,6,22,4118,0x100000016,22,0x400000000016,20,6]
theorem aEd:aC Go.Proofs.Tryz.prog (fun _=>true) aLR 200=true:=by decide+kernel
noncomputable def aLS:aN:=cF Tryz.f201 [6,6,0x200006,6,6,16]
theorem aEe:aC Go.Proofs.Tryz.prog (fun _=>true) aLS 201=true:=by decide+kernel
noncomputable def aLT:aN:=cF Tryz.f202 [14,28,60,60,60,60,12]
theorem aEf:aC Go.Proofs.Tryz.prog (fun _=>true) aLT 202=true:=by decide+kernel
noncomputable def aLU:aN:=cF Tryz.f203 [7,263,1799,1799,132871,3847,0x80000f07,1799,1799,192]
theorem aEg:aC Go.Proofs.Tryz.prog (fun _=>true) aLU 203=true:=by decide+kernel
noncomputable def aLV:aN:=cF Tryz.f204 [6,16]
theorem aEh:aC Go.Proofs.Tryz.prog (fun _=>true) aLV 204=true:=by decide+kernel
noncomputable def aLW:aN:=cF Tryz.f205 [12,76,1100,48,48]
theorem aEi:aC Go.Proofs.Tryz.prog (fun _=>true) aLW 205=true:=by decide+kernel
noncomputable def aLX:aN:=cF Tryz.f206 [28,220,65756,48,0x10001c,48,284,272,48]
theorem aEj:aC Go.Proofs.Tryz.prog (fun _=>true) aLX 206=true:=by decide+kernel
noncomputable def ZG:aN:=cF Tryz.f207 [6,6,4]
theorem aEk:aC Go.Proofs.Tryz.prog (fun _=>true) ZG 207=true:=by decide+kernel
noncomputable def aLY:aN:=cF Tryz.f208 [42,42,0x10002a,42,42,106,106,0x2000000006a,0x2000000000000006a,106,0x800000000000000006a,104,42,106,0]
theorem aEl:aC Go.Proofs.Tryz.prog (fun _=>true) aLY 208=true:=by decide+kernel
noncomputable def aLZ:aN:=cF Tryz.f209 [3,64,48]
theorem aEm:aC Go.Proofs.Tryz.prog (fun _=>true) aLZ 209=true:=by decide+kernel
noncomputable def aL0:aN:=cF Tryz.f210 [28,4124,52,0x40000030,48,16,0x800000001c,84,80,16,152,144,16]
theorem aEn:aC Go.Proofs.Tryz.prog (fun _=>true) aL0 210=true:=by decide+kernel
noncomputable def aEo:aN:=cF Tryz.f211 [3,387,387,899,419,65955,16,387,16]
theorem aEp:aC Go.Proofs.Tryz.prog (fun _=>true) aEo 211=true:=by decide+kernel
noncomputable def aL1:aN:=cF Tryz.f212 [3,387,387,899,419,65955,16,387,16]
theorem aEq:aC Go.Proofs.Tryz.prog (fun _=>true) aL1 212=true:=by decide+kernel
noncomputable def aL2:aN:=cF Tryz.f213 [19,275,48,83,48]
theorem aEr:aC Go.Proofs.Tryz.prog (fun _=>true) aL2 213=true:=by decide+kernel
noncomputable def aL3:aN:=cF Tryz.f214 [19,275,48,83,48]
theorem aEs:aC Go.Proofs.Tryz.prog (fun _=>true) aL3 214=true:=by decide+kernel
noncomputable def aL4:aN:=cF Tryz.f216 [3,16]
theorem aEt:aC Go.Proofs.Tryz.prog (fun _=>true) aL4 216=true:=by decide+kernel
noncomputable def aL5:aN:=cF Tryz.f217 [6,8]
theorem aEu:aC Go.Proofs.Tryz.prog (fun _=>true) aL5 217=true:=by decide+kernel
noncomputable def aL6:aN:=cF Tryz.f218 [14,46,4142,28,524302,28,206,0x2000000ce,28,460,396,396,28]
theorem aEv:aC Go.Proofs.Tryz.prog (fun _=>true) aL6 218=true:=by decide+kernel
noncomputable def aL7:aN:=cF Tryz.f219 [6,8]
theorem aEw:aC Go.Proofs.Tryz.prog (fun _=>true) aL7 219=true:=by decide+kernel
noncomputable def aA7:aN:=cF Tryz.f220 [6,4]
theorem aEx:aC Go.Proofs.Tryz.prog (fun _=>true) aA7 220=true:=by decide+kernel
noncomputable def aL8:aN:=cF Tryz.f221 [3,16]
theorem aEy:aC Go.Proofs.Tryz.prog (fun _=>true) aL8 221=true:=by decide+kernel
noncomputable def aL9:aN:=cF Tryz.f222 [42,0]
theorem aEz:aC Go.Proofs.Tryz.prog (fun _=>true) aL9 222=true:=by decide+kernel
noncomputable def aMa:aN:=cF Tryz.f223 [28,60,0x200030,48,16]
theorem aEA:aC Go.Proofs.Tryz.prog (fun _=>true) aMa 223=true:=by decide+kernel
noncomputable def aMb:aN:=cF Tryz.f224 [78,0x100004c,192,328,0x200000140,320,192]
theorem aEB:aC Go.Proofs.Tryz.prog (fun _=>true) aMb 224=true:=by decide+kernel
noncomputable def aMc:aN:=cF Tryz.f225 [113,0x2000071,192,0x8000070,192,192]
theorem aEC:aC Go.Proofs.Tryz.prog (fun _=>true) aMc 225=true:=by decide+kernel
noncomputable def aMd:aN:=cF Tryz.f226 [3,387,387,899,419,65955,16,387,16]
theorem aED:aC Go.Proofs.Tryz.prog (fun _=>true) aMd 226=true:=by decide+kernel
noncomputable def aMe:aN:=cF Tryz.f227 [1,17,12]
theorem aEE:aC Go.Proofs.Tryz.prog (fun _=>true) aMe 227=true:=by decide+kernel
end Go.Proofs.YticklbjcnimggaaGreat
