/- The seat's functions as the logical machine runs them (reckoned), and the look at each of them. Printed by a program. -/
import Derived.Test.YthljmpcakagceaaGreatCVm2
import Derived.Test.YthljmpcakagceaaGreatProg
set_option maxRecDepth 100000
namespace Go.Proofs.YthljmpcakagceaaGreat
open Go.Vm
abbrev md:FuncId->CM:=aR6 [89,125,147,148,149,166,202] [102,267,275,296,298] [105,160,181,226,276,286,288,289,300]
abbrev mdX (l:List FuncId) (f:FuncId):CM:=bif has l f then .pur else md f
noncomputable abbrev cF (fn:Go.Func) (ks:List Nat):aP:=aPI Go.Proofs.Tryz.prog fn ⟨md,ks,[],[]⟩
noncomputable abbrev cG (fn:Go.Func) (m:FuncId->CM) (ks:List Nat) (a:List (Nat×List (Nat×Nat))) (b:List (Nat×List (Nat×Option Nat))):aP:=aPI Go.Proofs.Tryz.prog fn ⟨m,ks,a,b⟩
noncomputable def x7:aP:=cF Tryz.f7 [120,632,0x100000000278,256,3704,15992,65128,0x20000000000000d668,256,251432,0xfc628,0x40000000000000000000000c628,256,0x1000000000000000000000004628,256,0x304220,0xf00200,256]
theorem aPQ:aE Go.Proofs.Tryz.prog (fun _=>true) x7 7=true:=by decide+kernel
noncomputable def x11:aP:=cF Tryz.f11 [2,4]
theorem aKH:aE Go.Proofs.Tryz.prog (fun _=>true) x11 11=true:=by decide+kernel
noncomputable def x12:aP:=cF Tryz.f12 [2,258,4,10,10,8202,0x40000a,4,10,18,18,0x8000012,0x80000000012,4,18,4]
theorem aKI:aE Go.Proofs.Tryz.prog (fun _=>true) x12 12=true:=by decide+kernel
noncomputable def x13:aP:=cF Tryz.f13 [2,0x100000,4,4]
theorem aKJ:aE Go.Proofs.Tryz.prog (fun _=>true) x13 13=true:=by decide+kernel
noncomputable def x21:aP:=cF Tryz.f21 [6,38,38,1062,0x100026,16,38,16]
theorem aKK:aE Go.Proofs.Tryz.prog (fun _=>true) x21 21=true:=by decide+kernel
noncomputable def x23:aP:=cF Tryz.f23 [12,96,0x200060,0x4000000,16,16,0x20000060,16,16]
theorem aKL:aE Go.Proofs.Tryz.prog (fun _=>true) x23 23=true:=by decide+kernel
noncomputable def x27:aP:=cF Tryz.f27 [2,130,4,10,0x8000000,4,4]
theorem aKM:aE Go.Proofs.Tryz.prog (fun _=>true) x27 27=true:=by decide+kernel
noncomputable def x29:aP:=cG Tryz.f29 md [28,92,524380,48,156,412,0x700019c,0x700019c,0xf00019c,0x700079c,0x7000f9c,0x7000f9c,0x1007000f9c,0x7001f9c,0x7003f9c,0x40000007001f9c,0x7000f9c,0x10000000007000b9c,0x7000b9c,0x7000b9c,0x700019c,0x700019c,48] [(0,[(8,1)])] [(0,[(7,some 2003),(1000008,none)]),(1,[(1000008,none)])]
theorem aKN:aE Go.Proofs.Tryz.prog (fun _=>true) x29 29=true:=by decide+kernel
noncomputable def x30:aP:=cF Tryz.f30 [12,524300,16,44,44,0x100002c,0x200000002c,16,44,16]
theorem aKO:aE Go.Proofs.Tryz.prog (fun _=>true) x30 30=true:=by decide+kernel
noncomputable def x35:aP:=cF Tryz.f35 [9,41,41,553,131113,16,41,16]
theorem aKP:aE Go.Proofs.Tryz.prog (fun _=>true) x35 35=true:=by decide+kernel
noncomputable def x36:aP:=cF Tryz.f36 [2,4]
theorem aKQ:aE Go.Proofs.Tryz.prog (fun _=>true) x36 36=true:=by decide+kernel
noncomputable def x38:aP:=cF Tryz.f38 [28,48]
theorem aKR:aE Go.Proofs.Tryz.prog (fun _=>true) x38 38=true:=by decide+kernel
noncomputable def x42:aP:=cF Tryz.f42 [0,6,30,1]
theorem aKS:aE Go.Proofs.Tryz.prog (fun _=>true) x42 42=true:=by decide+kernel
noncomputable def x43:aP:=cF Tryz.f43 [2,4]
theorem aKT:aE Go.Proofs.Tryz.prog (fun _=>true) x43 43=true:=by decide+kernel
noncomputable def x44:aP:=cF Tryz.f44 [28,48]
theorem aKU:aE Go.Proofs.Tryz.prog (fun _=>true) x44 44=true:=by decide+kernel
noncomputable def x45:aP:=cF Tryz.f45 [12,4108,16,44,44,131116,0x4000002c,16,44,16]
theorem aKV:aE Go.Proofs.Tryz.prog (fun _=>true) x45 45=true:=by decide+kernel
noncomputable def x46:aP:=cF Tryz.f46 [28,92,8284,48,156,524444,48,796,0x2000011c,48,0x40000011c,48,48]
theorem aKW:aE Go.Proofs.Tryz.prog (fun _=>true) x46 46=true:=by decide+kernel
noncomputable def x47:aP:=cF Tryz.f47 [22,212,32980,48,48]
theorem aKX:aE Go.Proofs.Tryz.prog (fun _=>true) x47 47=true:=by decide+kernel
noncomputable def x52:aP:=cF Tryz.f52 [2,0x40000000,4,4]
theorem aKY:aE Go.Proofs.Tryz.prog (fun _=>true) x52 52=true:=by decide+kernel
noncomputable def x53:aP:=cF Tryz.f53 [3,3,67,3,16]
theorem aKZ:aE Go.Proofs.Tryz.prog (fun _=>true) x53 53=true:=by decide+kernel
noncomputable def x54:aP:=cF Tryz.f54 [1,17,4,4]
theorem aK0:aE Go.Proofs.Tryz.prog (fun _=>true) x54 54=true:=by decide+kernel
noncomputable def x57:aP:=cF Tryz.f57 [2,258,4,26,0x10000000000,4,4]
theorem aK1:aE Go.Proofs.Tryz.prog (fun _=>true) x57 57=true:=by decide+kernel
noncomputable def x58:aP:=cG Tryz.f58 md [28,80,336,0x30000150,0x30000150,0x70000150,0x30000350,0x30000150,0x30000150,0xe000000150,0xe000000150,0x1e000000150,0xe000000d50,0x300e000000550,0x300e000000550,0x700e000000550,0x300e000002550,0x2300e000002550,0x300e000000550,0x300e000000550,0xe000000150,16720,0xe000000000004150,0xe000000000004150,0x1e000000000004150,0xe00000000001c150,0x100e00000000001c150,0xe000000000004150,0xe000000000004150,48] [(3,[(14,2)])] []
theorem aK2:aE Go.Proofs.Tryz.prog (fun _=>true) x58 58=true:=by decide+kernel
noncomputable def x66:aP:=cF Tryz.f66 [2,4]
theorem aK3:aE Go.Proofs.Tryz.prog (fun _=>true) x66 66=true:=by decide+kernel
noncomputable def x67:aP:=cF Tryz.f67 [56,152,8344,64,0x100018,64,64]
theorem aK4:aE Go.Proofs.Tryz.prog (fun _=>true) x67 67=true:=by decide+kernel
noncomputable def x68:aP:=cF Tryz.f68 [2,4]
theorem aK5:aE Go.Proofs.Tryz.prog (fun _=>true) x68 68=true:=by decide+kernel
noncomputable def x69:aP:=cF Tryz.f69 [19,51,48,16]
theorem aK6:aE Go.Proofs.Tryz.prog (fun _=>true) x69 69=true:=by decide+kernel
noncomputable def x70:aP:=cF Tryz.f70 [2,1026,4,4096,4,4]
theorem aK7:aE Go.Proofs.Tryz.prog (fun _=>true) x70 70=true:=by decide+kernel
noncomputable def x71:aP:=cF Tryz.f71 [12,524,16384,16,16,524300,0x1000000,16,16,16]
theorem aK8:aE Go.Proofs.Tryz.prog (fun _=>true) x71 71=true:=by decide+kernel
noncomputable def x72:aP:=cF Tryz.f72 [2,0x100000,4,4]
theorem aK9:aE Go.Proofs.Tryz.prog (fun _=>true) x72 72=true:=by decide+kernel
noncomputable def x73:aP:=cF Tryz.f73 [12,76,4172,48,0x10000c,48,132,0x8000000080,128,48]
theorem aLa:aE Go.Proofs.Tryz.prog (fun _=>true) x73 73=true:=by decide+kernel
noncomputable def x77:aP:=cF Tryz.f77 [2,0x100000000000002,4,10,26,26,0x400000000000001a,58,250,0x40000000000000000007a,0x400000000000000000000007a,4,890,0x2000000000000000000000000000001a,4,26,26,0x1000000000000000000000000000000000,4,4]
theorem aLb:aE Go.Proofs.Tryz.prog (fun _=>true) x77 77=true:=by decide+kernel
noncomputable def x78:aP:=cF Tryz.f78 [28,16]
theorem aLc:aE Go.Proofs.Tryz.prog (fun _=>true) x78 78=true:=by decide+kernel
noncomputable def x79:aP:=cF Tryz.f79 [6,4102,16,38,38,65574,0x4000000026,16,38,16]
theorem aLd:aE Go.Proofs.Tryz.prog (fun _=>true) x79 79=true:=by decide+kernel
noncomputable def x80:aP:=cG Tryz.f80 md [2,10,26,26,1050,58,58,131130,0x200000003a,58,58,26,4] [(0,[(3,2)]),(1,[(3,2)])] []
theorem aLe:aE Go.Proofs.Tryz.prog (fun _=>true) x80 80=true:=by decide+kernel
noncomputable def x81:aP:=cF Tryz.f81 [12,40,552,16,16]
theorem aLf:aE Go.Proofs.Tryz.prog (fun _=>true) x81 81=true:=by decide+kernel
noncomputable def x82:aP:=cF Tryz.f82 [56,312,16696,192,192]
theorem aLg:aE Go.Proofs.Tryz.prog (fun _=>true) x82 82=true:=by decide+kernel
noncomputable def x87:aP:=cF Tryz.f87 [2,4]
theorem aLh:aE Go.Proofs.Tryz.prog (fun _=>true) x87 87=true:=by decide+kernel
noncomputable def x88:aP:=cF Tryz.f88 [2,4]
theorem aLi:aE Go.Proofs.Tryz.prog (fun _=>true) x88 88=true:=by decide+kernel
noncomputable def x89:aP:=cF Tryz.f89 [6,4]
theorem aLj:aE Go.Proofs.Tryz.prog (fun _=>true) x89 89=true:=by decide+kernel
noncomputable def x91:aP:=cF Tryz.f91 [22,86,32854,48,404,0x8000194,48,660,2832,0x1000000000b10,48,48]
theorem aLk:aE Go.Proofs.Tryz.prog (fun _=>true) x91 91=true:=by decide+kernel
noncomputable def x92:aP:=cF Tryz.f92 [14,24]
theorem aLl:aE Go.Proofs.Tryz.prog (fun _=>true) x92 92=true:=by decide+kernel
noncomputable def x94:aP:=cF Tryz.f94 [28,92,464,0x4001d0,48,48]
theorem aLm:aE Go.Proofs.Tryz.prog (fun _=>true) x94 94=true:=by decide+kernel
noncomputable def x97:aP:=cF Tryz.f97 [1,3,5,1]
theorem aLn:aE Go.Proofs.Tryz.prog (fun _=>true) x97 97=true:=by decide+kernel
noncomputable def x98:aP:=cF Tryz.f98 [14,24]
theorem aLo:aE Go.Proofs.Tryz.prog (fun _=>true) x98 98=true:=by decide+kernel
noncomputable def x99:aP:=cF Tryz.f99 [2,2050,4,57346,57346,122882,57362,57378,0x40e022,4,57346,0x1c000002,0x1c000002,0x3c000002,0x1c0000c2,0x40001c000002,4,0x1c000002,4]
theorem aLp:aE Go.Proofs.Tryz.prog (fun _=>true) x99 99=true:=by decide+kernel
noncomputable def aLq:aP:=cF Tryz.f100 [2,10,0x800000,4,4]
theorem aDj:aE Go.Proofs.Tryz.prog (fun _=>true) aLq 100=true:=by decide+kernel
noncomputable def aLr:aP:=cF Tryz.f101 [6,48]
theorem aDk:aE Go.Proofs.Tryz.prog (fun _=>true) aLr 101=true:=by decide+kernel
noncomputable def aLs:aP:=cF Tryz.f104 [6,70,4166,48,384,0x200080,48,48]
theorem aDl:aE Go.Proofs.Tryz.prog (fun _=>true) aLs 104=true:=by decide+kernel
noncomputable def aLt:aP:=cF Tryz.f105 [7,7,65543,64,135,129,1,64]
theorem aDm:aE Go.Proofs.Tryz.prog (fun _=>true) aLt 105=true:=by decide+kernel
noncomputable def aLu:aP:=cG Tryz.f106 md [28,60,124,124,2172,124,124,48,16] [] [(0,[(5,some 2003)])]
theorem aDn:aE Go.Proofs.Tryz.prog (fun _=>true) aLu 106=true:=by decide+kernel
noncomputable def aLv:aP:=cF Tryz.f108 [92,348,0x80015c,192,604,0x2000025c,192,0x70000005c,0x70000005c,0xf0000005c,0x70000085c,0x400000070000005c,192,0x70000005c,0xe000000000000005c,0xe000000000000005c,0x1e000000000000005c,0xe000000000000305c,0x100e000000000000005c,192,0xe000000000000005c,0x38000000000000000005c,0x38000000000000000005c,0x78000000000000000005c,0x38000000000000000805c,0x38000000000000002805c,0x3800000000000000a005c,0x10000038000000000000000005c,192,0x38000000000000000005c,192]
theorem aDo:aE Go.Proofs.Tryz.prog (fun _=>true) aLv 108=true:=by decide+kernel
noncomputable def aLw:aP:=cF Tryz.f109 [2,0x7000002,0x7000002,0xf000002,0x7000012,0x87000002,4,0x7000002,0x800000000002,4,34,0x70000000000022,0x70000000000022,0xf0000000000022,0x700000000000a2,0x700000000007a2,0x4000700000000003a2,4,0x10000700000000001a2,0x10000000700000000001a2,4,0x700000000009a2,0x40000000000000000070000000000022,4,0x70000000000022,0x70000000000022,0x1000000000000000000000000000000000,4,4]
theorem aDp:aE Go.Proofs.Tryz.prog (fun _=>true) aLw 109=true:=by decide+kernel
noncomputable def aLx:aP:=cF Tryz.f110 [3,1027,16,12291,12291,28675,12323,0x1003003,16,12291,16]
theorem aDq:aE Go.Proofs.Tryz.prog (fun _=>true) aLx 110=true:=by decide+kernel
noncomputable def aLy:aP:=cF Tryz.f111 [12,44,16]
theorem aDr:aE Go.Proofs.Tryz.prog (fun _=>true) aLy 111=true:=by decide+kernel
noncomputable def aLz:aP:=cF Tryz.f115 [56,64]
theorem aDs:aE Go.Proofs.Tryz.prog (fun _=>true) aLz 115=true:=by decide+kernel
noncomputable def aLA:aP:=cF Tryz.f116 [19,496,1008,1776,3760,16]
theorem aDt:aE Go.Proofs.Tryz.prog (fun _=>true) aLA 116=true:=by decide+kernel
noncomputable def aLB:aP:=cF Tryz.f117 [3,3,67,3,16]
theorem aDu:aE Go.Proofs.Tryz.prog (fun _=>true) aLB 117=true:=by decide+kernel
noncomputable def aLC:aP:=cF Tryz.f118 [1,17,4,4]
theorem aDv:aE Go.Proofs.Tryz.prog (fun _=>true) aLC 118=true:=by decide+kernel
noncomputable def aLD:aP:=cF Tryz.f119 [12,16]
theorem aDw:aE Go.Proofs.Tryz.prog (fun _=>true) aLD 119=true:=by decide+kernel
noncomputable def aLE:aP:=cF Tryz.f120 [3,35,99,2115,4096,16,16,8195,16,65539,16,524288,16,16]
theorem aDx:aE Go.Proofs.Tryz.prog (fun _=>true) aLE 120=true:=by decide+kernel
noncomputable def aLF:aP:=cF Tryz.f121 [12,44,4140,16,16]
theorem aDy:aE Go.Proofs.Tryz.prog (fun _=>true) aLF 121=true:=by decide+kernel
noncomputable def aLG:aP:=cF Tryz.f122 [19,115,16]
theorem aDz:aE Go.Proofs.Tryz.prog (fun _=>true) aLG 122=true:=by decide+kernel
noncomputable def aLH:aP:=cF Tryz.f124 [54,950,0x20003b6,112,1462,1334,7476,0x10000000d34,44336,0x8000000000ad30,112,1328,112]
theorem aDA:aE Go.Proofs.Tryz.prog (fun _=>true) aLH 124=true:=by decide+kernel
noncomputable def aLI:aP:=cF Tryz.f125 [6,6,6,14,6,4]
theorem aDB:aE Go.Proofs.Tryz.prog (fun _=>true) aLI 125=true:=by decide+kernel
noncomputable def aLJ:aP:=cF Tryz.f128 [2,524290,4,10,10,0x100000a,26,0x800000000000001a,4,58,58,0x4000000000000003a,0x2000000000000000003a,4,58,10,4]
theorem aDC:aE Go.Proofs.Tryz.prog (fun _=>true) aLJ 128=true:=by decide+kernel
noncomputable def aLK:aP:=cF Tryz.f129 [12,44,44,1068,0x40000002c,16,44,16]
theorem aDD:aE Go.Proofs.Tryz.prog (fun _=>true) aLK 129=true:=by decide+kernel
noncomputable def aLL:aP:=cF Tryz.f130 [2,32770,4,10,10,0x10000a,26,0x2000000001a,4,58,58,0x10000000003a,0x8000000000003a,4,58,10,66,66,0x1000000000000042,0x8000000000000000042,4,66,4]
theorem aDE:aE Go.Proofs.Tryz.prog (fun _=>true) aLL 130=true:=by decide+kernel
noncomputable def aLM:aP:=cF Tryz.f131 [120,192]
theorem aDF:aE Go.Proofs.Tryz.prog (fun _=>true) aLM 131=true:=by decide+kernel
noncomputable def aLN:aP:=cF Tryz.f132 [28,284,48,16412,48,48]
theorem aDG:aE Go.Proofs.Tryz.prog (fun _=>true) aLN 132=true:=by decide+kernel
noncomputable def aLO:aP:=cF Tryz.f133 [12,44,44,1068,0x10002c,16,44,16]
theorem aDH:aE Go.Proofs.Tryz.prog (fun _=>true) aLO 133=true:=by decide+kernel
noncomputable def aLP:aP:=cF Tryz.f134 [56,64]
theorem aDI:aE Go.Proofs.Tryz.prog (fun _=>true) aLP 134=true:=by decide+kernel
noncomputable def aLQ:aP:=cF Tryz.f135 [56,152,65688,64,0x400000,64,64]
theorem aDJ:aE Go.Proofs.Tryz.prog (fun _=>true) aLQ 135=true:=by decide+kernel
noncomputable def aLR:aP:=cF Tryz.f136 [56,152,0x10000098,0x80000000,64,64,64]
theorem aDK:aE Go.Proofs.Tryz.prog (fun _=>true) aLR 136=true:=by decide+kernel
noncomputable def aLS:aP:=cF Tryz.f139 [28,92,4188,48,524316,48,48]
theorem aDL:aE Go.Proofs.Tryz.prog (fun _=>true) aLS 139=true:=by decide+kernel
noncomputable def aLT:aP:=cF Tryz.f146 [2,4]
theorem aDM:aE Go.Proofs.Tryz.prog (fun _=>true) aLT 146=true:=by decide+kernel
noncomputable def aLU:aP:=cF Tryz.f147 [6,4]
theorem aDN:aE Go.Proofs.Tryz.prog (fun _=>true) aLU 147=true:=by decide+kernel
noncomputable def aLV:aP:=cF Tryz.f148 [6,4]
theorem aDO:aE Go.Proofs.Tryz.prog (fun _=>true) aLV 148=true:=by decide+kernel
noncomputable def aLW:aP:=cF Tryz.f149 [6,4]
theorem aDP:aE Go.Proofs.Tryz.prog (fun _=>true) aLW 149=true:=by decide+kernel
noncomputable def aLX:aP:=cG Tryz.f150 md [2,10,458762,458762,983050,458810,0x1807001a,0x1807001a,0x3807001a,0x1807009a,0x11807009a,0x1807001a,0x1807001a,458762,266,0x7000000010a,0x7000000010a,0xf000000010a,0x7000000070a,0x407000000070a,0x7000000010a,0x7000000010a,4] [(2,[(8,2)])] []
theorem aDQ:aE Go.Proofs.Tryz.prog (fun _=>true) aLX 150=true:=by decide+kernel
noncomputable def aLY:aP:=cG Tryz.f151 (mdX [89]) [92,348,860,860,0x80035c,0x80000035c,860,860,0x2000000000154,3396,0x200000000000d44,192,324,4420,4420,0x10000000000001144,0x2000000000000001144,45380,0x200000000000000000b144,192,4420,4420,192] [] []
theorem aDR:aE Go.Proofs.Tryz.prog (fun _=>true) aLY 151=true:=by decide+kernel
noncomputable def aLZ:aP:=cF Tryz.f152 [28,284,48,16412,48,48]
theorem aDS:aE Go.Proofs.Tryz.prog (fun _=>true) aLZ 152=true:=by decide+kernel
noncomputable def aL0:aP:=cF Tryz.f153 [5,4]
theorem aDT:aE Go.Proofs.Tryz.prog (fun _=>true) aL0 153=true:=by decide+kernel
noncomputable def aL1:aP:=cF Tryz.f154 [1,4]
theorem aDU:aE Go.Proofs.Tryz.prog (fun _=>true) aL1 154=true:=by decide+kernel
noncomputable def aL2:aP:=cF Tryz.f155 [7,263,1799,1799,132871,3847,0x80000f07,1799,1799,192]
theorem aDV:aE Go.Proofs.Tryz.prog (fun _=>true) aL2 155=true:=by decide+kernel
noncomputable def aL3:aP:=cF Tryz.f156 [6,16]
theorem aDW:aE Go.Proofs.Tryz.prog (fun _=>true) aL3 156=true:=by decide+kernel
noncomputable def aL4:aP:=cF Tryz.f157 [3,35,99,2115,4096,16,16,8195,16,65539,16,524288,16,16]
theorem aDX:aE Go.Proofs.Tryz.prog (fun _=>true) aL4 157=true:=by decide+kernel
noncomputable def aL5:aP:=cF Tryz.f160 [248,2296,264440,2288,2048,1024]
theorem aDY:aE Go.Proofs.Tryz.prog (fun _=>true) aL5 160=true:=by decide+kernel
noncomputable def aL6:aP:=cF Tryz.f163 [9,16]
theorem aDZ:aE Go.Proofs.Tryz.prog (fun _=>true) aL6 163=true:=by decide+kernel
noncomputable def aL7:aP:=cF Tryz.f164 [22,212,32980,48,48]
theorem aD0:aE Go.Proofs.Tryz.prog (fun _=>true) aL7 164=true:=by decide+kernel
noncomputable def aL8:aP:=cF Tryz.f165 [92,229468,229468,491612,229980,0x203825c,229468,229468,92,0x1000000005c,1100,0x100000000044c,192,0x38000000000048,0x38000000000048,0x78000000000048,0x38000000001048,0x2038000000001048,0x38000000000448,0x400038000000000448,192,0x38000000000048,192]
theorem aD1:aE Go.Proofs.Tryz.prog (fun _=>true) aL8 165=true:=by decide+kernel
noncomputable def aL9:aP:=cF Tryz.f166 [6,6,6,6,14,14,6,4]
theorem aD2:aE Go.Proofs.Tryz.prog (fun _=>true) aL9 166=true:=by decide+kernel
noncomputable def aMa:aP:=cF Tryz.f167 [2,0x100002,4,26,0x380001a,0x380001a,0x780001a,0x380005a,0x800000380004a,4,0x380001a,0x380001a,4]
theorem aD3:aE Go.Proofs.Tryz.prog (fun _=>true) aMa 167=true:=by decide+kernel
noncomputable def aMb:aP:=cF Tryz.f168 [2,0x1000000002,4,0x1c000000002,0x1c000000002,0x3c000000002,0x1c00000001a,0x801c00000001a,0x2001c000000002,4,0x8000000001c000000002,4,0x1c000000002,34,0x3800000000000000000022,0x3800000000000000000022,0x7800000000000000000022,0x38000000000000000000e2,0x20000038000000000000000000e2,4,0x38000000000000000000e2,0x40000000003800000000000000000022,4,0x3800000000000000000022,4]
theorem aD4:aE Go.Proofs.Tryz.prog (fun _=>true) aMb 168=true:=by decide+kernel
noncomputable def aMc:aP:=cF Tryz.f169 [120,448]
theorem aD5:aE Go.Proofs.Tryz.prog (fun _=>true) aMc 169=true:=by decide+kernel
noncomputable def aMd:aP:=cF Tryz.f170 [6,8]
theorem aD6:aE Go.Proofs.Tryz.prog (fun _=>true) aMd 170=true:=by decide+kernel
noncomputable def aMe:aP:=cF Tryz.f171 [3,16]
theorem aD7:aE Go.Proofs.Tryz.prog (fun _=>true) aMe 171=true:=by decide+kernel
noncomputable def aMf:aP:=cF Tryz.f173 [28,4124,52,0x40000030,48,16,0x800000001c,84,80,16,152,144,16]
theorem aD8:aE Go.Proofs.Tryz.prog (fun _=>true) aMf 173=true:=by decide+kernel
noncomputable def aMg:aP:=cF Tryz.f174 [1,4]
theorem aD9:aE Go.Proofs.Tryz.prog (fun _=>true) aMg 174=true:=by decide+kernel
noncomputable def aMh:aP:=cF Tryz.f175 [3,35,99,2115,4096,16,16,8195,16,65539,16,524288,16,16]
theorem aEa:aE Go.Proofs.Tryz.prog (fun _=>true) aMh 175=true:=by decide+kernel
noncomputable def aMi:aP:=cF Tryz.f176 [3,67,195,451,963,1987,2755,6851,12995,12931,19,48]
theorem aEb:aE Go.Proofs.Tryz.prog (fun _=>true) aMi 176=true:=by decide+kernel
noncomputable def aMj:aP:=cF Tryz.f178 [54,436,65972,112,112]
theorem aEc:aE Go.Proofs.Tryz.prog (fun _=>true) aMj 178=true:=by decide+kernel
noncomputable def aMk:aP:=cF Tryz.f179 [3,48]
theorem aEd:aE Go.Proofs.Tryz.prog (fun _=>true) aMk 179=true:=by decide+kernel
noncomputable def aMl:aP:=cF Tryz.f180 [60,436,65972,112,112]
theorem aEe:aE Go.Proofs.Tryz.prog (fun _=>true) aMl 180=true:=by decide+kernel
noncomputable def aMm:aP:=cF Tryz.f181 [7,7,65543,64,135,129,1,64]
theorem aEf:aE Go.Proofs.Tryz.prog (fun _=>true) aMm 181=true:=by decide+kernel
noncomputable def aMn:aP:=cF Tryz.f189 [2,10,0x2000000a,4,26,58,58,0x100000003a,0x800000000000003a,4,58,58,90,90,0x200000000000000005a,0x10000000000000000000000000005a,4,90,4]
theorem aEg:aE Go.Proofs.Tryz.prog (fun _=>true) aMn 189=true:=by decide+kernel
noncomputable def aMo:aP:=cF Tryz.f190 [2,10,0x400000a,4,26,26,0x2000001a,0x400000001a,0x10000000001a,4,58,0x20000000000000000001a,4,26,4]
theorem aEh:aE Go.Proofs.Tryz.prog (fun _=>true) aMo 190=true:=by decide+kernel
noncomputable def aMp:aP:=cF Tryz.f191 [12,44,16]
theorem aEi:aE Go.Proofs.Tryz.prog (fun _=>true) aMp 191=true:=by decide+kernel
noncomputable def aMq:aP:=cF Tryz.f192 [120,2168,192,131160,192,192]
theorem aEj:aE Go.Proofs.Tryz.prog (fun _=>true) aMq 192=true:=by decide+kernel
noncomputable def aMr:aP:=cF Tryz.f193 [12,16]
theorem aEk:aE Go.Proofs.Tryz.prog (fun _=>true) aMr 193=true:=by decide+kernel
noncomputable def aMs:aP:=cF Tryz.f194 [6,14,6156,6156,14348,6188,6380,6572,0x200019ac,6572,0x10000019ac,6540,7948,6156,6156,4]
theorem aEl:aE Go.Proofs.Tryz.prog (fun _=>true) aMs 194=true:=by decide+kernel
noncomputable def aMt:aP:=cF Tryz.f195 [1,9,456,456,968,488,16872,4,456,4]
theorem aEm:aE Go.Proofs.Tryz.prog (fun _=>true) aMt 195=true:=by decide+kernel
noncomputable def aMu:aP:=cF Tryz.f197 [19,275,48,83,48]
theorem aEn:aE Go.Proofs.Tryz.prog (fun _=>true) aMu 197=true:=by decide+kernel
noncomputable def aMv:aP:=cF Tryz.f201 [2,4]
theorem aEo:aE Go.Proofs.Tryz.prog (fun _=>true) aMv 201=true:=by decide+kernel
noncomputable def aMw:aP:=cF Tryz.f202 [6,4]
theorem aEp:aE Go.Proofs.Tryz.prog (fun _=>true) aMw 202=true:=by decide+kernel
noncomputable def aMx:aP:=cF Tryz.f203 [22,54,54,116,262260,116,48,16]
theorem aEq:aE Go.Proofs.Tryz.prog (fun _=>true) aMx 203=true:=by decide+kernel
noncomputable def aMy:aP:=cG Tryz.f204 (mdX [89,147]) [28,92,92,92,220,220,0x20000dc,476,988,4060,0x8000000000fdc,4060,4060,0x40000000000000000fdc,4060,0x4000000000000000000005dc,0x80000000000000000000005dc,48,12764,8668,220,220,48] [] [(0,[(6,some 11003)])]
theorem aEr:aE Go.Proofs.Tryz.prog (fun _=>true) aMy 204=true:=by decide+kernel
noncomputable def aMz:aP:=cF Tryz.f205 [28,924,0x100039c,112,1436,1308,7444,0x20000000d14,112,0x1000000000d14,112,25872,17680,1296,112]
theorem aEs:aE Go.Proofs.Tryz.prog (fun _=>true) aMz 205=true:=by decide+kernel
noncomputable def aMA:aP:=cF Tryz.f206 [28,16]
theorem aEt:aE Go.Proofs.Tryz.prog (fun _=>true) aMA 206=true:=by decide+kernel
noncomputable def aMB:aP:=cF Tryz.f207 [1,4]
theorem aEu:aE Go.Proofs.Tryz.prog (fun _=>true) aMB 207=true:=by decide+kernel
noncomputable def aMC:aP:=cF Tryz.f209 [60,572,1592,1592,17976,0x100000638,1592,1592,256]
theorem aEv:aE Go.Proofs.Tryz.prog (fun _=>true) aMC 209=true:=by decide+kernel
noncomputable def aMD:aP:=cF Tryz.f211 [9,393,393,905,425,65961,16,393,16]
theorem aEw:aE Go.Proofs.Tryz.prog (fun _=>true) aMD 211=true:=by decide+kernel
noncomputable def aME:aP:=cF Tryz.f212 [22,86,8278,48,656,48]
theorem aEx:aE Go.Proofs.Tryz.prog (fun _=>true) aME 212=true:=by decide+kernel
noncomputable def aMF:aP:=cF Tryz.f213 [3,1027,16,12291,12291,28675,12323,0x1003003,16,12291,16]
theorem aEy:aE Go.Proofs.Tryz.prog (fun _=>true) aMF 213=true:=by decide+kernel
noncomputable def aMG:aP:=cG Tryz.f214 (mdX [125]) [28,92,0x40005c,48,156,0x1000009c,48,0xe0000001c,0xe0000001c,0x1e0000001c,0xe0000021c,0x40000e0000001c,48,0xe0000001c,1052,1052,0x38000000000000041c,0x38000000000000041c,0x78000000000000041c,0x38000000000000141c,0x38000000000000f41c,0x38000000000003f41c,0x8000038000000000003f41c,0x38000000000001841c,0x38000000000000841c,0x100000000000038000000000003b41c,0x38000000000004341c,0x38000000000004341c,0x38000000000004841c,0x38000000000000841c,0x80000000000000000038000000000001841c,0x38000000000000841c,0x1000000000000000000000038000000000000841c,48,0x38000000000000041c,48] [] [(1,[(10,some 11003)])]
theorem aEz:aE Go.Proofs.Tryz.prog (fun _=>true) aMG 214=true:=by decide+kernel
noncomputable def aMH:aP:=cF Tryz.f215 [6,8]
theorem aEA:aE Go.Proofs.Tryz.prog (fun _=>true) aMH 215=true:=by decide+kernel
noncomputable def aMI:aP:=cF Tryz.f216 [28,156,412,0x20019c,112,3740,0x2000000e9c,112,0x800000000000e9c,112,0x40000000000000e9c,112,5788,5276,31892,0x10000000000000000007c94,112,0x800000000000000000003494,234640,0x400000000000000000000039490,112,5136,112]
theorem aEB:aE Go.Proofs.Tryz.prog (fun _=>true) aMI 216=true:=by decide+kernel
noncomputable def aMJ:aP:=cF Tryz.f217 [2,4]
theorem aEC:aE Go.Proofs.Tryz.prog (fun _=>true) aMJ 217=true:=by decide+kernel
noncomputable def aMK:aP:=cF Tryz.f218 [2,10,0x80000a,4,26,50,0x800000002,4,0xe000000002,0xe000000002,0x1e000000002,0xe0000000c2,0x100000e000000002,4,0xe000000002,4]
theorem aED:aE Go.Proofs.Tryz.prog (fun _=>true) aMK 218=true:=by decide+kernel
noncomputable def aML:aP:=cF Tryz.f219 [12,44,16]
theorem aEE:aE Go.Proofs.Tryz.prog (fun _=>true) aML 219=true:=by decide+kernel
noncomputable def aMM:aP:=cF Tryz.f220 [120,632,131704,448,0x1000078,448,0x40000058,448,3136,448]
theorem aEF:aE Go.Proofs.Tryz.prog (fun _=>true) aMM 220=true:=by decide+kernel
noncomputable def aMN:aP:=cF Tryz.f221 [22,116,32820,16,16]
theorem aEG:aE Go.Proofs.Tryz.prog (fun _=>true) aMN 221=true:=by decide+kernel
noncomputable def aMO:aP:=cF Tryz.f222 [3,387,387,899,419,65955,16,387,16]
theorem aEH:aE Go.Proofs.Tryz.prog (fun _=>true) aMO 222=true:=by decide+kernel
noncomputable def aMP:aP:=cF Tryz.f223 [28,60,0x200030,48,16]
theorem aEI:aE Go.Proofs.Tryz.prog (fun _=>true) aMP 223=true:=by decide+kernel
noncomputable def aMQ:aP:=cF Tryz.f224 [1,4]
theorem aEJ:aE Go.Proofs.Tryz.prog (fun _=>true) aMQ 224=true:=by decide+kernel
noncomputable def aMR:aP:=cF Tryz.f225 [6,70,4166,48,384,0x400080,48,48]
theorem aEK:aE Go.Proofs.Tryz.prog (fun _=>true) aMR 225=true:=by decide+kernel
noncomputable def aMS:aP:=cF Tryz.f226 [7,7,65543,64,135,129,1,64]
theorem aEL:aE Go.Proofs.Tryz.prog (fun _=>true) aMS 226=true:=by decide+kernel
noncomputable def aMT:aP:=cF Tryz.f227 [7,263,1799,1799,132871,3847,0x80000f07,1799,1799,192]
theorem aEM:aE Go.Proofs.Tryz.prog (fun _=>true) aMT 227=true:=by decide+kernel
noncomputable def aMU:aP:=cF Tryz.f228 [6,16]
theorem aEN:aE Go.Proofs.Tryz.prog (fun _=>true) aMU 228=true:=by decide+kernel
noncomputable def aMV:aP:=cF Tryz.f229 [12,76,4172,48,396,0x400000c,48,48]
theorem aEO:aE Go.Proofs.Tryz.prog (fun _=>true) aMV 229=true:=by decide+kernel
noncomputable def aMW:aP:=cF Tryz.f230 [54,182,950,0x80003b6,112,1458,3506,7602,7346,0x2000000000014b2,1200,112]
theorem aEP:aE Go.Proofs.Tryz.prog (fun _=>true) aMW 230=true:=by decide+kernel
noncomputable def aMX:aP:=cF Tryz.f241 [28,48,16]
theorem aEQ:aE Go.Proofs.Tryz.prog (fun _=>true) aMX 241=true:=by decide+kernel
noncomputable def aMY:aP:=cF Tryz.f243 [78,0x100004c,192,328,0x200000140,320,192]
theorem aER:aE Go.Proofs.Tryz.prog (fun _=>true) aMY 243=true:=by decide+kernel
noncomputable def aMZ:aP:=cG Tryz.f253 md [22,54,118,118,16502,0x1000076,118,118,16] [] [(0,[(5,some 2003)])]
theorem aES:aE Go.Proofs.Tryz.prog (fun _=>true) aMZ 253=true:=by decide+kernel
noncomputable def aM0:aP:=cF Tryz.f254 [6,38,38,1062,0x100026,16,38,16]
theorem aET:aE Go.Proofs.Tryz.prog (fun _=>true) aM0 254=true:=by decide+kernel
noncomputable def aM1:aP:=cF Tryz.f255 [28,56,248,0x4000f8,248,248,248,240,0x100000000070,48,16]
theorem aEU:aE Go.Proofs.Tryz.prog (fun _=>true) aM1 255=true:=by decide+kernel
noncomputable def aM2:aP:=cF Tryz.f256 [120,240,480,448,192,64]
theorem aEV:aE Go.Proofs.Tryz.prog (fun _=>true) aM2 256=true:=by decide+kernel
noncomputable def aM3:aP:=cF Tryz.f257 [2,10,4]
theorem aEW:aE Go.Proofs.Tryz.prog (fun _=>true) aM3 257=true:=by decide+kernel
noncomputable def aM4:aP:=cF Tryz.f258 [220,468,2004,1492,1472,1472,1472,192]
theorem aEX:aE Go.Proofs.Tryz.prog (fun _=>true) aM4 258=true:=by decide+kernel
noncomputable def aM5:aP:=cF Tryz.f259 [28,32796,112,524316,112,0x2000001c,112,156,148,148,112]
theorem aEY:aE Go.Proofs.Tryz.prog (fun _=>true) aM5 259=true:=by decide+kernel
noncomputable def aM6:aP:=cG Tryz.f260 md [5,13,29,29,1053,29,29,4] [] [(0,[(3,some 5001)])]
theorem aEZ:aE Go.Proofs.Tryz.prog (fun _=>true) aM6 260=true:=by decide+kernel
noncomputable def aM7:aP:=cF Tryz.f263 [120,376,524664,192,1640,0x20000668,192,2656,6752,6720,2112,192]
theorem aE0:aE Go.Proofs.Tryz.prog (fun _=>true) aM7 263=true:=by decide+kernel
noncomputable def aM8:aP:=cF Tryz.f264 [248,760,0x2002f8,448,0x400000f8,448,0x10000000f8,448,7416,0x800000001cf8,448,11504,27840,26816,10432,448]
theorem aE1:aE Go.Proofs.Tryz.prog (fun _=>true) aM8 264=true:=by decide+kernel
noncomputable def aM9:aP:=cF Tryz.f265 [5,28]
theorem aE2:aE Go.Proofs.Tryz.prog (fun _=>true) aM9 265=true:=by decide+kernel
noncomputable def aNa:aP:=cF Tryz.f266 [28,156,4252,112,131100,112,0x40001c,112,0x10000001c,112,276,112]
theorem aE3:aE Go.Proofs.Tryz.prog (fun _=>true) aNa 266=true:=by decide+kernel
noncomputable def aE4:aP:=cF Tryz.f267 [3,16]
theorem aE5:aE Go.Proofs.Tryz.prog (fun _=>true) aE4 267=true:=by decide+kernel
noncomputable def aE6:aP:=cF Tryz.f268 [7,131077,16,0,16]
theorem aE7:aE Go.Proofs.Tryz.prog (fun _=>true) aE6 268=true:=by decide+kernel
noncomputable def aNb:aP:=cF Tryz.f269 [3,16]
theorem aE8:aE Go.Proofs.Tryz.prog (fun _=>true) aNb 269=true:=by decide+kernel
noncomputable def aNc:aP:=cF Tryz.f270 [6,16]
theorem aE9:aE Go.Proofs.Tryz.prog (fun _=>true) aNc 270=true:=by decide+kernel
noncomputable def aNd:aP:=cF Tryz.f271 [7,263,1799,1799,132871,3847,0x80000f07,1799,1799,192]
theorem aFa:aE Go.Proofs.Tryz.prog (fun _=>true) aNd 271=true:=by decide+kernel
noncomputable def aNe:aP:=cF Tryz.f272 [6,16]
theorem aFb:aE Go.Proofs.Tryz.prog (fun _=>true) aNe 272=true:=by decide+kernel
noncomputable def aNf:aP:=cF Tryz.f273 [12,76,1100,48,48]
theorem aFc:aE Go.Proofs.Tryz.prog (fun _=>true) aNf 273=true:=by decide+kernel
noncomputable def aNg:aP:=cF Tryz.f274 [28,220,65756,48,0x10001c,48,284,272,48]
theorem aFd:aE Go.Proofs.Tryz.prog (fun _=>true) aNg 274=true:=by decide+kernel
noncomputable def aAc:aP:=cF Tryz.f275 [6,6,4]
theorem aFe:aE Go.Proofs.Tryz.prog (fun _=>true) aAc 275=true:=by decide+kernel
noncomputable def aNh:aP:=cF Tryz.f276 [42,42,0x10002a,42,42,106,106,0x2000000006a,0x2000000000000006a,106,0x800000000000000006a,104,42,106,0]
theorem aFf:aE Go.Proofs.Tryz.prog (fun _=>true) aNh 276=true:=by decide+kernel
noncomputable def aNi:aP:=cF Tryz.f282 [19,275,48,83,48]
theorem aFg:aE Go.Proofs.Tryz.prog (fun _=>true) aNi 282=true:=by decide+kernel
noncomputable def aNj:aP:=cF Tryz.f286 [14,14,0]
theorem aFh:aE Go.Proofs.Tryz.prog (fun _=>true) aNj 286=true:=by decide+kernel
noncomputable def aNk:aP:=cF Tryz.f287 [28,56,56,48,16]
theorem aFi:aE Go.Proofs.Tryz.prog (fun _=>true) aNk 287=true:=by decide+kernel
noncomputable def aNl:aP:=cF Tryz.f288 [6,6,22,4118,0x100000016,22,0x400000000016,20,6]
theorem aFj:aE Go.Proofs.Tryz.prog (fun _=>true) aNl 288=true:=by decide+kernel
noncomputable def aNm:aP:=cF Tryz.f289 [6,6,0x200006,6,6,16]
theorem aFk:aE Go.Proofs.Tryz.prog (fun _=>true) aNm 289=true:=by decide+kernel
noncomputable def aNn:aP:=cF Tryz.f290 [14,28,60,60,60,60,12]
theorem aFl:aE Go.Proofs.Tryz.prog (fun _=>true) aNn 290=true:=by decide+kernel
noncomputable def aNo:aP:=cG Tryz.f291 md [5,13,28,28,8220,28,28,4] [] [(0,[(3,some 3001)])]
theorem aFm:aE Go.Proofs.Tryz.prog (fun _=>true) aNo 291=true:=by decide+kernel
noncomputable def aNp:aP:=cF Tryz.f292 [3,16]
theorem aFn:aE Go.Proofs.Tryz.prog (fun _=>true) aNp 292=true:=by decide+kernel
noncomputable def aNq:aP:=cF Tryz.f293 [6,8]
theorem aFo:aE Go.Proofs.Tryz.prog (fun _=>true) aNq 293=true:=by decide+kernel
noncomputable def aNr:aP:=cF Tryz.f294 [14,46,4142,28,524302,28,206,0x2000000ce,28,460,396,396,28]
theorem aFp:aE Go.Proofs.Tryz.prog (fun _=>true) aNr 294=true:=by decide+kernel
noncomputable def aNs:aP:=cF Tryz.f295 [6,8]
theorem aFq:aE Go.Proofs.Tryz.prog (fun _=>true) aNs 295=true:=by decide+kernel
noncomputable def aFr:aP:=cF Tryz.f296 [3,387,387,899,419,65955,16,387,16]
theorem aFs:aE Go.Proofs.Tryz.prog (fun _=>true) aFr 296=true:=by decide+kernel
noncomputable def aNt:aP:=cF Tryz.f297 [3,387,387,899,419,65955,16,387,16]
theorem aFt:aE Go.Proofs.Tryz.prog (fun _=>true) aNt 297=true:=by decide+kernel
noncomputable def aBH:aP:=cF Tryz.f298 [6,4]
theorem aFu:aE Go.Proofs.Tryz.prog (fun _=>true) aBH 298=true:=by decide+kernel
noncomputable def aNu:aP:=cF Tryz.f299 [3,16]
theorem aFv:aE Go.Proofs.Tryz.prog (fun _=>true) aNu 299=true:=by decide+kernel
noncomputable def aNv:aP:=cF Tryz.f300 [42,0]
theorem aFw:aE Go.Proofs.Tryz.prog (fun _=>true) aNv 300=true:=by decide+kernel
noncomputable def aNw:aP:=cF Tryz.f302 [113,0x2000071,192,0x8000070,192,192]
theorem aFx:aE Go.Proofs.Tryz.prog (fun _=>true) aNw 302=true:=by decide+kernel
noncomputable def aNx:aP:=cF Tryz.f304 [3,387,387,899,419,65955,16,387,16]
theorem aFy:aE Go.Proofs.Tryz.prog (fun _=>true) aNx 304=true:=by decide+kernel
noncomputable def aNy:aP:=cF Tryz.f305 [1,17,12]
theorem aFz:aE Go.Proofs.Tryz.prog (fun _=>true) aNy 305=true:=by decide+kernel
end Go.Proofs.YthljmpcakagceaaGreat
