/- The seat's functions as the logical machine runs them (reckoned), and the look at each of them. Printed by a program. -/
import Derived.Test.YthljmpcakagceaaGreatEVm2
import Derived.Test.YthljmpcakagceaaGreatProg
set_option maxRecDepth 100000
namespace Go.Proofs.YthljmpcakagceaaGreat
open Go.Vm
abbrev md:FuncId->CM:=aSa [125,162,166] [233,267,275,279,296,298] [126,160,181,187,226,231,232,234,235,236,237,238,276,277,280,281,300,301]
abbrev mdX (l:List FuncId) (f:FuncId):CM:=bif has l f then .pur else md f
noncomputable abbrev cF (fn:Go.Func) (ks:List Nat):aQ:=aPx Go.Proofs.Tryz.prog fn ⟨md,ks,[],[],false⟩
noncomputable abbrev cG (fn:Go.Func) (m:FuncId->CM) (ks:List Nat) (a:List (Nat×List (Nat×Nat))) (b:List (Nat×List (Nat×Option Nat))):aQ:=aPx Go.Proofs.Tryz.prog fn ⟨m,ks,a,b,false⟩
noncomputable def x4:aQ:=cF Tryz.f4 [12,44,0x800000002c,16,108,744,0x100000000002e8,16,3304,15592,64744,0x200000000000000000000000040e8,16,0x2000000000000000000000000040e8,16,82152,82152,0x20000000000000000000000000140e8,0x100000000000000000000000000000140e8,16,82152,393376,16]
theorem aPG:aD Go.Proofs.Tryz.prog (fun _=>true) x4 4=true:=by decide+kernel
noncomputable def x10:aQ:=cF Tryz.f10 [0,6,62,254,1]
theorem aKp:aD Go.Proofs.Tryz.prog (fun _=>true) x10 10=true:=by decide+kernel
noncomputable def x11:aQ:=cF Tryz.f11 [2,4]
theorem aKq:aD Go.Proofs.Tryz.prog (fun _=>true) x11 11=true:=by decide+kernel
noncomputable def x12:aQ:=cF Tryz.f12 [2,258,4,10,10,8202,0x40000a,4,10,18,18,0x8000012,0x80000000012,4,18,4]
theorem aKr:aD Go.Proofs.Tryz.prog (fun _=>true) x12 12=true:=by decide+kernel
noncomputable def x13:aQ:=cF Tryz.f13 [2,0x100000,4,4]
theorem aKs:aD Go.Proofs.Tryz.prog (fun _=>true) x13 13=true:=by decide+kernel
noncomputable def x14:aQ:=cF Tryz.f14 [28,212,32980,48,48]
theorem aKt:aD Go.Proofs.Tryz.prog (fun _=>true) x14 14=true:=by decide+kernel
noncomputable def x15:aQ:=cF Tryz.f15 [2,18,1042,12,64,12]
theorem aKu:aD Go.Proofs.Tryz.prog (fun _=>true) x15 15=true:=by decide+kernel
noncomputable def x19:aQ:=cF Tryz.f19 [6,38,38,2086,524326,16,38,70,70,0x800046,0x200000046,16,70,134,134,0x2000000086,0x200000000000086,16,134,16]
theorem aKv:aD Go.Proofs.Tryz.prog (fun _=>true) x19 19=true:=by decide+kernel
noncomputable def x20:aQ:=cF Tryz.f20 [60,256]
theorem aKw:aD Go.Proofs.Tryz.prog (fun _=>true) x20 20=true:=by decide+kernel
noncomputable def x21:aQ:=cF Tryz.f21 [6,38,38,1062,0x100026,16,38,16]
theorem aKx:aD Go.Proofs.Tryz.prog (fun _=>true) x21 21=true:=by decide+kernel
noncomputable def x22:aQ:=cF Tryz.f22 [2,4]
theorem aKy:aD Go.Proofs.Tryz.prog (fun _=>true) x22 22=true:=by decide+kernel
noncomputable def x23:aQ:=cF Tryz.f23 [12,96,0x200060,0x4000000,16,16,0x20000060,16,16]
theorem aKz:aD Go.Proofs.Tryz.prog (fun _=>true) x23 23=true:=by decide+kernel
noncomputable def x24:aQ:=cG Tryz.f24 md [28,156,0x40009c,112,0x800001c,112,284,0x400000001c,112,1052,1052,27676,0x4000000002c1c,25628,0x80000000000641c,112,1052,33816,164880,112] [(0,[(10,2)])] []
theorem aKA:aD Go.Proofs.Tryz.prog (fun _=>true) x24 24=true:=by decide+kernel
noncomputable def x25:aQ:=cF Tryz.f25 [2,18,274,12,8194,12,12]
theorem aKB:aD Go.Proofs.Tryz.prog (fun _=>true) x25 25=true:=by decide+kernel
noncomputable def x26:aQ:=cF Tryz.f26 [12,192,32960,48,524352,48,48]
theorem aKC:aD Go.Proofs.Tryz.prog (fun _=>true) x26 26=true:=by decide+kernel
noncomputable def x27:aQ:=cF Tryz.f27 [2,130,4,10,0x8000000,4,4]
theorem aKD:aD Go.Proofs.Tryz.prog (fun _=>true) x27 27=true:=by decide+kernel
noncomputable def x28:aQ:=cF Tryz.f28 [12,16]
theorem aKE:aD Go.Proofs.Tryz.prog (fun _=>true) x28 28=true:=by decide+kernel
noncomputable def x29:aQ:=cG Tryz.f29 md [28,92,524380,48,156,412,0x700019c,0x700019c,0xf00019c,0x700079c,0x7000f9c,0x7000f9c,0x1007000f9c,0x7001f9c,0x7003f9c,0x40000007001f9c,0x7000f9c,0x10000000007000b9c,0x7000b9c,0x7000b9c,0x700019c,0x700019c,48] [(0,[(8,1)])] [(0,[(7,some 2003),(1000008,none)]),(1,[(1000008,none)])]
theorem aKF:aD Go.Proofs.Tryz.prog (fun _=>true) x29 29=true:=by decide+kernel
noncomputable def x30:aQ:=cF Tryz.f30 [12,524300,16,44,44,0x100002c,0x200000002c,16,44,16]
theorem aKG:aD Go.Proofs.Tryz.prog (fun _=>true) x30 30=true:=by decide+kernel
noncomputable def x34:aQ:=cF Tryz.f34 [3,1027,16,35,35,16419,0x2000023,16,35,16]
theorem aKH:aD Go.Proofs.Tryz.prog (fun _=>true) x34 34=true:=by decide+kernel
noncomputable def x35:aQ:=cF Tryz.f35 [9,41,41,553,131113,16,41,16]
theorem aKI:aD Go.Proofs.Tryz.prog (fun _=>true) x35 35=true:=by decide+kernel
noncomputable def x36:aQ:=cF Tryz.f36 [2,4]
theorem aKJ:aD Go.Proofs.Tryz.prog (fun _=>true) x36 36=true:=by decide+kernel
noncomputable def x50:aQ:=cF Tryz.f50 [1,1]
theorem aKK:aD Go.Proofs.Tryz.prog (fun _=>true) x50 50=true:=by decide+kernel
noncomputable def x51:aQ:=cF Tryz.f51 [5,4]
theorem aKL:aD Go.Proofs.Tryz.prog (fun _=>true) x51 51=true:=by decide+kernel
noncomputable def x52:aQ:=cF Tryz.f52 [2,0x40000000,4,4]
theorem aKM:aD Go.Proofs.Tryz.prog (fun _=>true) x52 52=true:=by decide+kernel
noncomputable def x53:aQ:=cF Tryz.f53 [3,3,67,3,16]
theorem aKN:aD Go.Proofs.Tryz.prog (fun _=>true) x53 53=true:=by decide+kernel
noncomputable def x54:aQ:=cF Tryz.f54 [1,17,4,4]
theorem aKO:aD Go.Proofs.Tryz.prog (fun _=>true) x54 54=true:=by decide+kernel
noncomputable def x55:aQ:=cF Tryz.f55 [28,92,8284,48,156,524444,48,796,48]
theorem aKP:aD Go.Proofs.Tryz.prog (fun _=>true) x55 55=true:=by decide+kernel
noncomputable def x56:aQ:=cF Tryz.f56 [28,220,848,0x2000350,48,48]
theorem aKQ:aD Go.Proofs.Tryz.prog (fun _=>true) x56 56=true:=by decide+kernel
noncomputable def x57:aQ:=cF Tryz.f57 [2,258,4,26,0x10000000000,4,4]
theorem aKR:aD Go.Proofs.Tryz.prog (fun _=>true) x57 57=true:=by decide+kernel
noncomputable def x58:aQ:=cG Tryz.f58 md [28,80,336,0x30000150,0x30000150,0x70000150,0x30000350,0x30000150,0x30000150,0xe000000150,0xe000000150,0x1e000000150,0xe000000d50,0x300e000000550,0x300e000000550,0x700e000000550,0x300e000002550,0x2300e000002550,0x300e000000550,0x300e000000550,0xe000000150,16720,0xe000000000004150,0xe000000000004150,0x1e000000000004150,0xe00000000001c150,0x100e00000000001c150,0xe000000000004150,0xe000000000004150,48] [(3,[(14,2)])] []
theorem aKS:aD Go.Proofs.Tryz.prog (fun _=>true) x58 58=true:=by decide+kernel
noncomputable def x66:aQ:=cF Tryz.f66 [2,4]
theorem aKT:aD Go.Proofs.Tryz.prog (fun _=>true) x66 66=true:=by decide+kernel
noncomputable def x67:aQ:=cF Tryz.f67 [56,152,8344,64,0x100018,64,64]
theorem aKU:aD Go.Proofs.Tryz.prog (fun _=>true) x67 67=true:=by decide+kernel
noncomputable def x68:aQ:=cF Tryz.f68 [2,4]
theorem aKV:aD Go.Proofs.Tryz.prog (fun _=>true) x68 68=true:=by decide+kernel
noncomputable def x69:aQ:=cF Tryz.f69 [19,51,48,16]
theorem aKW:aD Go.Proofs.Tryz.prog (fun _=>true) x69 69=true:=by decide+kernel
noncomputable def x70:aQ:=cF Tryz.f70 [2,1026,4,4096,4,4]
theorem aKX:aD Go.Proofs.Tryz.prog (fun _=>true) x70 70=true:=by decide+kernel
noncomputable def x71:aQ:=cF Tryz.f71 [12,524,16384,16,16,524300,0x1000000,16,16,16]
theorem aKY:aD Go.Proofs.Tryz.prog (fun _=>true) x71 71=true:=by decide+kernel
noncomputable def x72:aQ:=cF Tryz.f72 [2,0x100000,4,4]
theorem aKZ:aD Go.Proofs.Tryz.prog (fun _=>true) x72 72=true:=by decide+kernel
noncomputable def x73:aQ:=cF Tryz.f73 [12,76,4172,48,0x10000c,48,132,0x8000000080,128,48]
theorem aK0:aD Go.Proofs.Tryz.prog (fun _=>true) x73 73=true:=by decide+kernel
noncomputable def x74:aQ:=cF Tryz.f74 [124,884,0x1000274,628,0x4000274,240,1140,7792,0x200000001e70,240,7280,240]
theorem aK1:aD Go.Proofs.Tryz.prog (fun _=>true) x74 74=true:=by decide+kernel
noncomputable def x75:aQ:=cF Tryz.f75 [28,220,524444,156,0x20009c,48,280,272,48]
theorem aK2:aD Go.Proofs.Tryz.prog (fun _=>true) x75 75=true:=by decide+kernel
noncomputable def x76:aQ:=cF Tryz.f76 [12,76,4172,48,140,131212,48,264,256,48]
theorem aK3:aD Go.Proofs.Tryz.prog (fun _=>true) x76 76=true:=by decide+kernel
noncomputable def x77:aQ:=cF Tryz.f77 [2,0x100000000000002,4,10,26,26,0x400000000000001a,58,250,0x40000000000000000007a,0x400000000000000000000007a,4,890,0x2000000000000000000000000000001a,4,26,26,0x1000000000000000000000000000000000,4,4]
theorem aK4:aD Go.Proofs.Tryz.prog (fun _=>true) x77 77=true:=by decide+kernel
noncomputable def x78:aQ:=cF Tryz.f78 [28,16]
theorem aK5:aD Go.Proofs.Tryz.prog (fun _=>true) x78 78=true:=by decide+kernel
noncomputable def x79:aQ:=cF Tryz.f79 [6,4102,16,38,38,65574,0x4000000026,16,38,16]
theorem aK6:aD Go.Proofs.Tryz.prog (fun _=>true) x79 79=true:=by decide+kernel
noncomputable def x80:aQ:=cG Tryz.f80 md [2,10,26,26,1050,58,58,131130,0x200000003a,58,58,26,4] [(0,[(3,2)]),(1,[(3,2)])] []
theorem aK7:aD Go.Proofs.Tryz.prog (fun _=>true) x80 80=true:=by decide+kernel
noncomputable def x81:aQ:=cF Tryz.f81 [12,40,552,16,16]
theorem aK8:aD Go.Proofs.Tryz.prog (fun _=>true) x81 81=true:=by decide+kernel
noncomputable def x82:aQ:=cF Tryz.f82 [56,312,16696,192,192]
theorem aK9:aD Go.Proofs.Tryz.prog (fun _=>true) x82 82=true:=by decide+kernel
noncomputable def x87:aQ:=cF Tryz.f87 [2,4]
theorem aLa:aD Go.Proofs.Tryz.prog (fun _=>true) x87 87=true:=by decide+kernel
noncomputable def x88:aQ:=cF Tryz.f88 [2,4]
theorem aLb:aD Go.Proofs.Tryz.prog (fun _=>true) x88 88=true:=by decide+kernel
noncomputable def x99:aQ:=cF Tryz.f99 [2,2050,4,57346,57346,122882,57362,57378,0x40e022,4,57346,0x1c000002,0x1c000002,0x3c000002,0x1c0000c2,0x40001c000002,4,0x1c000002,4]
theorem aLc:aD Go.Proofs.Tryz.prog (fun _=>true) x99 99=true:=by decide+kernel
noncomputable def aLd:aQ:=cF Tryz.f100 [2,10,0x800000,4,4]
theorem aDn:aD Go.Proofs.Tryz.prog (fun _=>true) aLd 100=true:=by decide+kernel
noncomputable def aLe:aQ:=cF Tryz.f101 [6,48]
theorem aDo:aD Go.Proofs.Tryz.prog (fun _=>true) aLe 101=true:=by decide+kernel
noncomputable def aLf:aQ:=cF Tryz.f104 [6,70,4166,48,384,0x200080,48,48]
theorem aDp:aD Go.Proofs.Tryz.prog (fun _=>true) aLf 104=true:=by decide+kernel
noncomputable def aLg:aQ:=cG Tryz.f106 md [28,60,124,124,2172,124,124,48,16] [] [(0,[(5,some 2003)])]
theorem aDq:aD Go.Proofs.Tryz.prog (fun _=>true) aLg 106=true:=by decide+kernel
noncomputable def aLh:aQ:=cF Tryz.f107 [5,53,4149,12,12]
theorem aDr:aD Go.Proofs.Tryz.prog (fun _=>true) aLh 107=true:=by decide+kernel
noncomputable def aLi:aQ:=cF Tryz.f108 [92,348,0x80015c,192,604,0x2000025c,192,0x70000005c,0x70000005c,0xf0000005c,0x70000085c,0x400000070000005c,192,0x70000005c,0xe000000000000005c,0xe000000000000005c,0x1e000000000000005c,0xe000000000000305c,0x100e000000000000005c,192,0xe000000000000005c,0x38000000000000000005c,0x38000000000000000005c,0x78000000000000000005c,0x38000000000000000805c,0x38000000000000002805c,0x3800000000000000a005c,0x10000038000000000000000005c,192,0x38000000000000000005c,192]
theorem aDs:aD Go.Proofs.Tryz.prog (fun _=>true) aLi 108=true:=by decide+kernel
noncomputable def aLj:aQ:=cF Tryz.f109 [2,0x7000002,0x7000002,0xf000002,0x7000012,0x87000002,4,0x7000002,0x800000000002,4,34,0x70000000000022,0x70000000000022,0xf0000000000022,0x700000000000a2,0x700000000007a2,0x4000700000000003a2,4,0x10000700000000001a2,0x10000000700000000001a2,4,0x700000000009a2,0x40000000000000000070000000000022,4,0x70000000000022,0x70000000000022,0x1000000000000000000000000000000000,4,4]
theorem aDt:aD Go.Proofs.Tryz.prog (fun _=>true) aLj 109=true:=by decide+kernel
noncomputable def aLk:aQ:=cF Tryz.f110 [3,1027,16,12291,12291,28675,12323,0x1003003,16,12291,16]
theorem aDu:aD Go.Proofs.Tryz.prog (fun _=>true) aLk 110=true:=by decide+kernel
noncomputable def aLl:aQ:=cF Tryz.f111 [12,44,16]
theorem aDv:aD Go.Proofs.Tryz.prog (fun _=>true) aLl 111=true:=by decide+kernel
noncomputable def aLm:aQ:=cF Tryz.f115 [56,64]
theorem aDw:aD Go.Proofs.Tryz.prog (fun _=>true) aLm 115=true:=by decide+kernel
noncomputable def aLn:aQ:=cF Tryz.f116 [19,496,1008,1776,3760,16]
theorem aDx:aD Go.Proofs.Tryz.prog (fun _=>true) aLn 116=true:=by decide+kernel
noncomputable def aLo:aQ:=cF Tryz.f117 [3,3,67,3,16]
theorem aDy:aD Go.Proofs.Tryz.prog (fun _=>true) aLo 117=true:=by decide+kernel
noncomputable def aLp:aQ:=cF Tryz.f118 [1,17,4,4]
theorem aDz:aD Go.Proofs.Tryz.prog (fun _=>true) aLp 118=true:=by decide+kernel
noncomputable def aLq:aQ:=cF Tryz.f119 [12,16]
theorem aDA:aD Go.Proofs.Tryz.prog (fun _=>true) aLq 119=true:=by decide+kernel
noncomputable def aLr:aQ:=cF Tryz.f120 [3,35,99,2115,4096,16,16,8195,16,65539,16,524288,16,16]
theorem aDB:aD Go.Proofs.Tryz.prog (fun _=>true) aLr 120=true:=by decide+kernel
noncomputable def aLs:aQ:=cF Tryz.f121 [12,44,4140,16,16]
theorem aDC:aD Go.Proofs.Tryz.prog (fun _=>true) aLs 121=true:=by decide+kernel
noncomputable def aLt:aQ:=cF Tryz.f122 [19,115,16]
theorem aDD:aD Go.Proofs.Tryz.prog (fun _=>true) aLt 122=true:=by decide+kernel
noncomputable def aLu:aQ:=cF Tryz.f123 [12,76,524364,48,140,0x2000000c,48,1544,0x2000000208,48,2048,48]
theorem aDE:aD Go.Proofs.Tryz.prog (fun _=>true) aLu 123=true:=by decide+kernel
noncomputable def aLv:aQ:=cF Tryz.f124 [54,950,0x20003b6,112,1462,1334,7476,0x10000000d34,44336,0x8000000000ad30,112,1328,112]
theorem aDF:aD Go.Proofs.Tryz.prog (fun _=>true) aLv 124=true:=by decide+kernel
noncomputable def aLw:aQ:=cF Tryz.f125 [6,6,6,14,6,4]
theorem aDG:aD Go.Proofs.Tryz.prog (fun _=>true) aLw 125=true:=by decide+kernel
noncomputable def aLx:aQ:=cF Tryz.f126 [19,0]
theorem aDH:aD Go.Proofs.Tryz.prog (fun _=>true) aLx 126=true:=by decide+kernel
noncomputable def aBJ:aQ:=cF Tryz.f127 [28,4124,32,64,0x100000,32,32]
theorem aDI:aD Go.Proofs.Tryz.prog (fun _=>true) aBJ 127=true:=by decide+kernel
noncomputable def aLy:aQ:=cF Tryz.f128 [2,524290,4,10,10,0x100000a,26,0x800000000000001a,4,58,58,0x4000000000000003a,0x2000000000000000003a,4,58,10,4]
theorem aDJ:aD Go.Proofs.Tryz.prog (fun _=>true) aLy 128=true:=by decide+kernel
noncomputable def aLz:aQ:=cF Tryz.f129 [12,44,44,1068,0x40000002c,16,44,16]
theorem aDK:aD Go.Proofs.Tryz.prog (fun _=>true) aLz 129=true:=by decide+kernel
noncomputable def aLA:aQ:=cF Tryz.f130 [2,32770,4,10,10,0x10000a,26,0x2000000001a,4,58,58,0x10000000003a,0x8000000000003a,4,58,10,66,66,0x1000000000000042,0x8000000000000000042,4,66,4]
theorem aDL:aD Go.Proofs.Tryz.prog (fun _=>true) aLA 130=true:=by decide+kernel
noncomputable def aLB:aQ:=cF Tryz.f131 [120,192]
theorem aDM:aD Go.Proofs.Tryz.prog (fun _=>true) aLB 131=true:=by decide+kernel
noncomputable def aLC:aQ:=cF Tryz.f132 [28,284,48,16412,48,48]
theorem aDN:aD Go.Proofs.Tryz.prog (fun _=>true) aLC 132=true:=by decide+kernel
noncomputable def aLD:aQ:=cF Tryz.f133 [12,44,44,1068,0x10002c,16,44,16]
theorem aDO:aD Go.Proofs.Tryz.prog (fun _=>true) aLD 133=true:=by decide+kernel
noncomputable def aLE:aQ:=cF Tryz.f134 [56,64]
theorem aDP:aD Go.Proofs.Tryz.prog (fun _=>true) aLE 134=true:=by decide+kernel
noncomputable def aLF:aQ:=cF Tryz.f135 [56,152,65688,64,0x400000,64,64]
theorem aDQ:aD Go.Proofs.Tryz.prog (fun _=>true) aLF 135=true:=by decide+kernel
noncomputable def aLG:aQ:=cF Tryz.f136 [56,152,0x10000098,0x80000000,64,64,64]
theorem aDR:aD Go.Proofs.Tryz.prog (fun _=>true) aLG 136=true:=by decide+kernel
noncomputable def aLH:aQ:=cF Tryz.f139 [28,92,4188,48,524316,48,48]
theorem aDS:aD Go.Proofs.Tryz.prog (fun _=>true) aLH 139=true:=by decide+kernel
noncomputable def aLI:aQ:=cF Tryz.f146 [2,4]
theorem aDT:aD Go.Proofs.Tryz.prog (fun _=>true) aLI 146=true:=by decide+kernel
noncomputable def aLJ:aQ:=cF Tryz.f154 [1,4]
theorem aDU:aD Go.Proofs.Tryz.prog (fun _=>true) aLJ 154=true:=by decide+kernel
noncomputable def aLK:aQ:=cF Tryz.f155 [7,263,1799,1799,132871,3847,0x80000f07,1799,1799,192]
theorem aDV:aD Go.Proofs.Tryz.prog (fun _=>true) aLK 155=true:=by decide+kernel
noncomputable def aLL:aQ:=cF Tryz.f156 [6,16]
theorem aDW:aD Go.Proofs.Tryz.prog (fun _=>true) aLL 156=true:=by decide+kernel
noncomputable def aLM:aQ:=cF Tryz.f157 [3,35,99,2115,4096,16,16,8195,16,65539,16,524288,16,16]
theorem aDX:aD Go.Proofs.Tryz.prog (fun _=>true) aLM 157=true:=by decide+kernel
noncomputable def aLN:aQ:=cF Tryz.f160 [248,2296,264440,2288,2048,1024]
theorem aDY:aD Go.Proofs.Tryz.prog (fun _=>true) aLN 160=true:=by decide+kernel
noncomputable def aLO:aQ:=cF Tryz.f161 [5,2053,12,21,0x300015,0x300015,0x700015,0x300035,0x300015,0x300015,12]
theorem aDZ:aD Go.Proofs.Tryz.prog (fun _=>true) aLO 161=true:=by decide+kernel
noncomputable def aLP:aQ:=cF Tryz.f162 [3,1027,3,97,0x4000041,65,129,384,384,0x2000000180,384,16]
theorem aD0:aD Go.Proofs.Tryz.prog (fun _=>true) aLP 162=true:=by decide+kernel
noncomputable def aLQ:aQ:=cF Tryz.f163 [9,16]
theorem aD1:aD Go.Proofs.Tryz.prog (fun _=>true) aLQ 163=true:=by decide+kernel
noncomputable def aLR:aQ:=cF Tryz.f164 [22,212,32980,48,48]
theorem aD2:aD Go.Proofs.Tryz.prog (fun _=>true) aLR 164=true:=by decide+kernel
noncomputable def aLS:aQ:=cF Tryz.f165 [92,229468,229468,491612,229980,0x203825c,229468,229468,92,0x1000000005c,1100,0x100000000044c,192,0x38000000000048,0x38000000000048,0x78000000000048,0x38000000001048,0x2038000000001048,0x38000000000448,0x400038000000000448,192,0x38000000000048,192]
theorem aD3:aD Go.Proofs.Tryz.prog (fun _=>true) aLS 165=true:=by decide+kernel
noncomputable def aLT:aQ:=cF Tryz.f166 [6,6,6,6,14,14,6,4]
theorem aD4:aD Go.Proofs.Tryz.prog (fun _=>true) aLT 166=true:=by decide+kernel
noncomputable def aLU:aQ:=cF Tryz.f167 [2,0x100002,4,26,0x380001a,0x380001a,0x780001a,0x380005a,0x800000380004a,4,0x380001a,0x380001a,4]
theorem aD5:aD Go.Proofs.Tryz.prog (fun _=>true) aLU 167=true:=by decide+kernel
noncomputable def aLV:aQ:=cF Tryz.f168 [2,0x1000000002,4,0x1c000000002,0x1c000000002,0x3c000000002,0x1c00000001a,0x801c00000001a,0x2001c000000002,4,0x8000000001c000000002,4,0x1c000000002,34,0x3800000000000000000022,0x3800000000000000000022,0x7800000000000000000022,0x38000000000000000000e2,0x20000038000000000000000000e2,4,0x38000000000000000000e2,0x40000000003800000000000000000022,4,0x3800000000000000000022,4]
theorem aD6:aD Go.Proofs.Tryz.prog (fun _=>true) aLV 168=true:=by decide+kernel
noncomputable def aLW:aQ:=cF Tryz.f169 [120,448]
theorem aD7:aD Go.Proofs.Tryz.prog (fun _=>true) aLW 169=true:=by decide+kernel
noncomputable def aLX:aQ:=cF Tryz.f170 [6,8]
theorem aD8:aD Go.Proofs.Tryz.prog (fun _=>true) aLX 170=true:=by decide+kernel
noncomputable def aLY:aQ:=cF Tryz.f171 [3,16]
theorem aD9:aD Go.Proofs.Tryz.prog (fun _=>true) aLY 171=true:=by decide+kernel
noncomputable def aLZ:aQ:=cF Tryz.f173 [28,4124,52,0x40000030,48,16,0x800000001c,84,80,16,152,144,16]
theorem aEa:aD Go.Proofs.Tryz.prog (fun _=>true) aLZ 173=true:=by decide+kernel
noncomputable def aL0:aQ:=cF Tryz.f174 [1,4]
theorem aEb:aD Go.Proofs.Tryz.prog (fun _=>true) aL0 174=true:=by decide+kernel
noncomputable def aL1:aQ:=cF Tryz.f175 [3,35,99,2115,4096,16,16,8195,16,65539,16,524288,16,16]
theorem aEc:aD Go.Proofs.Tryz.prog (fun _=>true) aL1 175=true:=by decide+kernel
noncomputable def aL2:aQ:=cF Tryz.f176 [3,67,195,451,963,1987,2755,6851,12995,12931,19,48]
theorem aEd:aD Go.Proofs.Tryz.prog (fun _=>true) aL2 176=true:=by decide+kernel
noncomputable def aL3:aQ:=cF Tryz.f177 [6,22,278,12,16390,12,12]
theorem aEe:aD Go.Proofs.Tryz.prog (fun _=>true) aL3 177=true:=by decide+kernel
noncomputable def aL4:aQ:=cF Tryz.f178 [54,436,65972,112,112]
theorem aEf:aD Go.Proofs.Tryz.prog (fun _=>true) aL4 178=true:=by decide+kernel
noncomputable def aL5:aQ:=cF Tryz.f179 [3,48]
theorem aEg:aD Go.Proofs.Tryz.prog (fun _=>true) aL5 179=true:=by decide+kernel
noncomputable def aL6:aQ:=cF Tryz.f180 [60,436,65972,112,112]
theorem aEh:aD Go.Proofs.Tryz.prog (fun _=>true) aL6 180=true:=by decide+kernel
noncomputable def aL7:aQ:=cF Tryz.f181 [7,7,65543,64,135,129,1,64]
theorem aEi:aD Go.Proofs.Tryz.prog (fun _=>true) aL7 181=true:=by decide+kernel
noncomputable def aL8:aQ:=cF Tryz.f187 [1055,3103,3103,7199,0x2001c1f,0,0x100001c1f,0,0x8000001c1f,7199,7199,31775,0x100000000007c1f,15391,15391,31775,0x8000000000000003c1f,0x100000000000000003c1f,0x2000000000000000000003c1f,35869,3103,200735,71711,858143,0x1d081f,0x200000000000000000000000001d081f,68639,68637,3103,68639,68635,3103]
theorem aEj:aD Go.Proofs.Tryz.prog (fun _=>true) aL8 187=true:=by decide+kernel
noncomputable def aL9:aQ:=cF Tryz.f188 [1,4,4]
theorem aEk:aD Go.Proofs.Tryz.prog (fun _=>true) aL9 188=true:=by decide+kernel
noncomputable def aMa:aQ:=cF Tryz.f189 [2,10,0x2000000a,4,26,58,58,0x100000003a,0x800000000000003a,4,58,58,90,90,0x200000000000000005a,0x10000000000000000000000000005a,4,90,4]
theorem aEl:aD Go.Proofs.Tryz.prog (fun _=>true) aMa 189=true:=by decide+kernel
noncomputable def aMb:aQ:=cF Tryz.f190 [2,10,0x400000a,4,26,26,0x2000001a,0x400000001a,0x10000000001a,4,58,0x20000000000000000001a,4,26,4]
theorem aEm:aD Go.Proofs.Tryz.prog (fun _=>true) aMb 190=true:=by decide+kernel
noncomputable def aMc:aQ:=cF Tryz.f191 [12,44,16]
theorem aEn:aD Go.Proofs.Tryz.prog (fun _=>true) aMc 191=true:=by decide+kernel
noncomputable def aMd:aQ:=cF Tryz.f192 [120,2168,192,131160,192,192]
theorem aEo:aD Go.Proofs.Tryz.prog (fun _=>true) aMd 192=true:=by decide+kernel
noncomputable def aMe:aQ:=cF Tryz.f193 [12,16]
theorem aEp:aD Go.Proofs.Tryz.prog (fun _=>true) aMe 193=true:=by decide+kernel
noncomputable def aMf:aQ:=cF Tryz.f194 [6,14,6156,6156,14348,6188,6380,6572,0x200019ac,6572,0x10000019ac,6540,7948,6156,6156,4]
theorem aEq:aD Go.Proofs.Tryz.prog (fun _=>true) aMf 194=true:=by decide+kernel
noncomputable def aMg:aQ:=cF Tryz.f195 [1,9,456,456,968,488,16872,4,456,4]
theorem aEr:aD Go.Proofs.Tryz.prog (fun _=>true) aMg 195=true:=by decide+kernel
noncomputable def aMh:aQ:=cF Tryz.f197 [19,275,48,83,48]
theorem aEs:aD Go.Proofs.Tryz.prog (fun _=>true) aMh 197=true:=by decide+kernel
noncomputable def aMi:aQ:=cF Tryz.f201 [2,4]
theorem aEt:aD Go.Proofs.Tryz.prog (fun _=>true) aMi 201=true:=by decide+kernel
noncomputable def aMj:aQ:=cF Tryz.f207 [1,4]
theorem aEu:aD Go.Proofs.Tryz.prog (fun _=>true) aMj 207=true:=by decide+kernel
noncomputable def aMk:aQ:=cF Tryz.f209 [60,572,1592,1592,17976,0x100000638,1592,1592,256]
theorem aEv:aD Go.Proofs.Tryz.prog (fun _=>true) aMk 209=true:=by decide+kernel
noncomputable def aMl:aQ:=cF Tryz.f210 [3,192,48,768,48]
theorem aEw:aD Go.Proofs.Tryz.prog (fun _=>true) aMl 210=true:=by decide+kernel
noncomputable def aMm:aQ:=cF Tryz.f211 [9,393,393,905,425,65961,16,393,16]
theorem aEx:aD Go.Proofs.Tryz.prog (fun _=>true) aMm 211=true:=by decide+kernel
noncomputable def aMn:aQ:=cF Tryz.f212 [22,86,8278,48,656,48]
theorem aEy:aD Go.Proofs.Tryz.prog (fun _=>true) aMn 212=true:=by decide+kernel
noncomputable def aMo:aQ:=cF Tryz.f213 [3,1027,16,12291,12291,28675,12323,0x1003003,16,12291,16]
theorem aEz:aD Go.Proofs.Tryz.prog (fun _=>true) aMo 213=true:=by decide+kernel
noncomputable def aMp:aQ:=cG Tryz.f214 (mdX [125]) [28,92,0x40005c,48,156,0x1000009c,48,0xe0000001c,0xe0000001c,0x1e0000001c,0xe0000021c,0x40000e0000001c,48,0xe0000001c,1052,1052,0x38000000000000041c,0x38000000000000041c,0x78000000000000041c,0x38000000000000141c,0x38000000000000f41c,0x38000000000003f41c,0x8000038000000000003f41c,0x38000000000001841c,0x38000000000000841c,0x100000000000038000000000003b41c,0x38000000000004341c,0x38000000000004341c,0x38000000000004841c,0x38000000000000841c,0x80000000000000000038000000000001841c,0x38000000000000841c,0x1000000000000000000000038000000000000841c,48,0x38000000000000041c,48] [] [(1,[(10,some 11003)])]
theorem aEA:aD Go.Proofs.Tryz.prog (fun _=>true) aMp 214=true:=by decide+kernel
noncomputable def aMq:aQ:=cF Tryz.f215 [6,8]
theorem aEB:aD Go.Proofs.Tryz.prog (fun _=>true) aMq 215=true:=by decide+kernel
noncomputable def aMr:aQ:=cF Tryz.f216 [28,156,412,0x20019c,112,3740,0x2000000e9c,112,0x800000000000e9c,112,0x40000000000000e9c,112,5788,5276,31892,0x10000000000000000007c94,112,0x800000000000000000003494,234640,0x400000000000000000000039490,112,5136,112]
theorem aEC:aD Go.Proofs.Tryz.prog (fun _=>true) aMr 216=true:=by decide+kernel
noncomputable def aMs:aQ:=cF Tryz.f217 [2,4]
theorem aED:aD Go.Proofs.Tryz.prog (fun _=>true) aMs 217=true:=by decide+kernel
noncomputable def aMt:aQ:=cF Tryz.f218 [2,10,0x80000a,4,26,50,0x800000002,4,0xe000000002,0xe000000002,0x1e000000002,0xe0000000c2,0x100000e000000002,4,0xe000000002,4]
theorem aEE:aD Go.Proofs.Tryz.prog (fun _=>true) aMt 218=true:=by decide+kernel
noncomputable def aMu:aQ:=cF Tryz.f219 [12,44,16]
theorem aEF:aD Go.Proofs.Tryz.prog (fun _=>true) aMu 219=true:=by decide+kernel
noncomputable def aMv:aQ:=cF Tryz.f220 [120,632,131704,448,0x1000078,448,0x40000058,448,3136,448]
theorem aEG:aD Go.Proofs.Tryz.prog (fun _=>true) aMv 220=true:=by decide+kernel
noncomputable def aMw:aQ:=cF Tryz.f221 [22,116,32820,16,16]
theorem aEH:aD Go.Proofs.Tryz.prog (fun _=>true) aMw 221=true:=by decide+kernel
noncomputable def aMx:aQ:=cF Tryz.f222 [3,387,387,899,419,65955,16,387,16]
theorem aEI:aD Go.Proofs.Tryz.prog (fun _=>true) aMx 222=true:=by decide+kernel
noncomputable def aMy:aQ:=cF Tryz.f223 [28,60,0x200030,48,16]
theorem aEJ:aD Go.Proofs.Tryz.prog (fun _=>true) aMy 223=true:=by decide+kernel
noncomputable def aMz:aQ:=cF Tryz.f224 [1,4]
theorem aEK:aD Go.Proofs.Tryz.prog (fun _=>true) aMz 224=true:=by decide+kernel
noncomputable def aMA:aQ:=cF Tryz.f225 [6,70,4166,48,384,0x400080,48,48]
theorem aEL:aD Go.Proofs.Tryz.prog (fun _=>true) aMA 225=true:=by decide+kernel
noncomputable def aMB:aQ:=cF Tryz.f226 [7,7,65543,64,135,129,1,64]
theorem aEM:aD Go.Proofs.Tryz.prog (fun _=>true) aMB 226=true:=by decide+kernel
noncomputable def aMC:aQ:=cF Tryz.f227 [7,263,1799,1799,132871,3847,0x80000f07,1799,1799,192]
theorem aEN:aD Go.Proofs.Tryz.prog (fun _=>true) aMC 227=true:=by decide+kernel
noncomputable def aMD:aQ:=cF Tryz.f228 [6,16]
theorem aEO:aD Go.Proofs.Tryz.prog (fun _=>true) aMD 228=true:=by decide+kernel
noncomputable def aME:aQ:=cF Tryz.f229 [12,76,4172,48,396,0x400000c,48,48]
theorem aEP:aD Go.Proofs.Tryz.prog (fun _=>true) aME 229=true:=by decide+kernel
noncomputable def aMF:aQ:=cF Tryz.f230 [54,182,950,0x80003b6,112,1458,3506,7602,7346,0x2000000000014b2,1200,112]
theorem aEQ:aD Go.Proofs.Tryz.prog (fun _=>true) aMF 230=true:=by decide+kernel
noncomputable def aMG:aQ:=cF Tryz.f231 [271,271,16655,783,783,0x40000030f,783,783,271]
theorem aER:aD Go.Proofs.Tryz.prog (fun _=>true) aMG 231=true:=by decide+kernel
noncomputable def aMH:aQ:=cF Tryz.f232 [271,783,1801,3849,3849,0x200f09,3849,3849,4873,4873,0x200001309,4873,4873,4873]
theorem aES:aD Go.Proofs.Tryz.prog (fun _=>true) aMH 232=true:=by decide+kernel
noncomputable def aMI:aQ:=cF Tryz.f233 [259,131331,771,1795,3843,3843,0x800000f03,7939,0x200000001f03,7939,3843,3843]
theorem aET:aD Go.Proofs.Tryz.prog (fun _=>true) aMI 233=true:=by decide+kernel
noncomputable def aMJ:aQ:=cF Tryz.f234 [15,1035,3083,7179,15371,31753,0x400007c09,0x1000007809,30729,30729,30729,10240,0x80000000002000,0x280000000002000,768,0x1000000000002000,768,768]
theorem aEU:aD Go.Proofs.Tryz.prog (fun _=>true) aMJ 234=true:=by decide+kernel
noncomputable def aMK:aQ:=cF Tryz.f235 [261,769,769,33537,769,769,769]
theorem aEV:aD Go.Proofs.Tryz.prog (fun _=>true) aMK 235=true:=by decide+kernel
noncomputable def aML:aQ:=cF Tryz.f236 [15,527,1551,1551,67087,1551,0x100000060f,1551,0x2000000060f,256,0x20000000060f,256,1551,0x2000000000000060f,3599,3599,0x200000000000000e0f,0x1000000000000000000e0f,3599,3599,0x10000000000000000000000060f,5647,5647,0x200000000000000000000000160f,0x1000000000000000000000000000160f,5647,5647,1551,256]
theorem aEW:aD Go.Proofs.Tryz.prog (fun _=>true) aML 236=true:=by decide+kernel
noncomputable def aMM:aQ:=cF Tryz.f237 [31,23,6163,6163,6163,0x800000001813,6163,6163,0x20000000000001813,6163,0x400000000000001813,6163,6163,6163,1024]
theorem aEX:aD Go.Proofs.Tryz.prog (fun _=>true) aMM 237=true:=by decide+kernel
noncomputable def aMN:aQ:=cF Tryz.f238 [31,23,12307,12307,0x800000003013,12307,12307,0x40000000000003013,12307,0x800000000000003013,8192,3072,12307,12307,12307,12307,12307,0x1000000000000000000000000003013,12307,12307,0x80000000000000000000000000000003013,12307,0x1000000000000000000000000000000003013,12307,12307,12307,8192,3072]
theorem aEY:aD Go.Proofs.Tryz.prog (fun _=>true) aMN 238=true:=by decide+kernel
noncomputable def aMO:aQ:=cF Tryz.f239 [5,21,1,5,261,5,5,4]
theorem aEZ:aD Go.Proofs.Tryz.prog (fun _=>true) aMO 239=true:=by decide+kernel
noncomputable def aMP:aQ:=cF Tryz.f240 [5,21,1,5,261,5,5,16389,5,5,4]
theorem aE0:aD Go.Proofs.Tryz.prog (fun _=>true) aMP 240=true:=by decide+kernel
noncomputable def aMQ:aQ:=cF Tryz.f241 [28,48,16]
theorem aE1:aD Go.Proofs.Tryz.prog (fun _=>true) aMQ 241=true:=by decide+kernel
noncomputable def aMR:aQ:=cF Tryz.f243 [78,0x100004c,192,328,0x200000140,320,192]
theorem aE2:aD Go.Proofs.Tryz.prog (fun _=>true) aMR 243=true:=by decide+kernel
noncomputable def aMS:aQ:=cF Tryz.f262 [3,64,48]
theorem aE3:aD Go.Proofs.Tryz.prog (fun _=>true) aMS 262=true:=by decide+kernel
noncomputable def aMT:aQ:=cF Tryz.f263 [120,376,524664,192,1640,0x20000668,192,2656,6752,6720,2112,192]
theorem aE4:aD Go.Proofs.Tryz.prog (fun _=>true) aMT 263=true:=by decide+kernel
noncomputable def aMU:aQ:=cF Tryz.f264 [248,760,0x2002f8,448,0x400000f8,448,0x10000000f8,448,7416,0x800000001cf8,448,11504,27840,26816,10432,448]
theorem aE5:aD Go.Proofs.Tryz.prog (fun _=>true) aMU 264=true:=by decide+kernel
noncomputable def aMV:aQ:=cF Tryz.f265 [5,28]
theorem aE6:aD Go.Proofs.Tryz.prog (fun _=>true) aMV 265=true:=by decide+kernel
noncomputable def aMW:aQ:=cF Tryz.f266 [28,156,4252,112,131100,112,0x40001c,112,0x10000001c,112,276,112]
theorem aE7:aD Go.Proofs.Tryz.prog (fun _=>true) aMW 266=true:=by decide+kernel
noncomputable def aE8:aQ:=cF Tryz.f267 [3,16]
theorem aE9:aD Go.Proofs.Tryz.prog (fun _=>true) aE8 267=true:=by decide+kernel
noncomputable def aFa:aQ:=cF Tryz.f268 [7,131077,16,0,16]
theorem aFb:aD Go.Proofs.Tryz.prog (fun _=>true) aFa 268=true:=by decide+kernel
noncomputable def aMX:aQ:=cF Tryz.f269 [3,16]
theorem aFc:aD Go.Proofs.Tryz.prog (fun _=>true) aMX 269=true:=by decide+kernel
noncomputable def aMY:aQ:=cF Tryz.f270 [6,16]
theorem aFd:aD Go.Proofs.Tryz.prog (fun _=>true) aMY 270=true:=by decide+kernel
noncomputable def aMZ:aQ:=cF Tryz.f271 [7,263,1799,1799,132871,3847,0x80000f07,1799,1799,192]
theorem aFe:aD Go.Proofs.Tryz.prog (fun _=>true) aMZ 271=true:=by decide+kernel
noncomputable def aM0:aQ:=cF Tryz.f272 [6,16]
theorem aFf:aD Go.Proofs.Tryz.prog (fun _=>true) aM0 272=true:=by decide+kernel
noncomputable def aM1:aQ:=cF Tryz.f273 [12,76,1100,48,48]
theorem aFg:aD Go.Proofs.Tryz.prog (fun _=>true) aM1 273=true:=by decide+kernel
noncomputable def aM2:aQ:=cF Tryz.f274 [28,220,65756,48,0x10001c,48,284,272,48]
theorem aFh:aD Go.Proofs.Tryz.prog (fun _=>true) aM2 274=true:=by decide+kernel
noncomputable def aAc:aQ:=cF Tryz.f275 [6,6,4]
theorem aFi:aD Go.Proofs.Tryz.prog (fun _=>true) aAc 275=true:=by decide+kernel
noncomputable def aM3:aQ:=cF Tryz.f276 [42,42,0x10002a,42,42,106,106,0x2000000006a,0x2000000000000006a,106,0x800000000000000006a,104,42,106,0]
theorem aFj:aD Go.Proofs.Tryz.prog (fun _=>true) aM3 276=true:=by decide+kernel
noncomputable def aM4:aQ:=cF Tryz.f277 [1053,1053,3101,265245,0x10000000c1d,3101,0x400000000000c1d,2077,1053]
theorem aFk:aD Go.Proofs.Tryz.prog (fun _=>true) aM4 277=true:=by decide+kernel
noncomputable def aM5:aQ:=cF Tryz.f278 [1,4]
theorem aFl:aD Go.Proofs.Tryz.prog (fun _=>true) aM5 278=true:=by decide+kernel
noncomputable def aM6:aQ:=cF Tryz.f279 [1,1,1,1,4]
theorem aFm:aD Go.Proofs.Tryz.prog (fun _=>true) aM6 279=true:=by decide+kernel
noncomputable def aM7:aQ:=cF Tryz.f280 [15,256]
theorem aFn:aD Go.Proofs.Tryz.prog (fun _=>true) aM7 280=true:=by decide+kernel
noncomputable def aM8:aQ:=cF Tryz.f281 [63,63,55,4,4096]
theorem aFo:aD Go.Proofs.Tryz.prog (fun _=>true) aM8 281=true:=by decide+kernel
noncomputable def aM9:aQ:=cF Tryz.f282 [19,275,48,83,48]
theorem aFp:aD Go.Proofs.Tryz.prog (fun _=>true) aM9 282=true:=by decide+kernel
noncomputable def aNa:aQ:=cF Tryz.f292 [3,16]
theorem aFq:aD Go.Proofs.Tryz.prog (fun _=>true) aNa 292=true:=by decide+kernel
noncomputable def aNb:aQ:=cF Tryz.f293 [6,8]
theorem aFr:aD Go.Proofs.Tryz.prog (fun _=>true) aNb 293=true:=by decide+kernel
noncomputable def aNc:aQ:=cF Tryz.f294 [14,46,4142,28,524302,28,206,0x2000000ce,28,460,396,396,28]
theorem aFs:aD Go.Proofs.Tryz.prog (fun _=>true) aNc 294=true:=by decide+kernel
noncomputable def aNd:aQ:=cF Tryz.f295 [6,8]
theorem aFt:aD Go.Proofs.Tryz.prog (fun _=>true) aNd 295=true:=by decide+kernel
noncomputable def aFu:aQ:=cF Tryz.f296 [3,387,387,899,419,65955,16,387,16]
theorem aFv:aD Go.Proofs.Tryz.prog (fun _=>true) aFu 296=true:=by decide+kernel
noncomputable def aNe:aQ:=cF Tryz.f297 [3,387,387,899,419,65955,16,387,16]
theorem aFw:aD Go.Proofs.Tryz.prog (fun _=>true) aNe 297=true:=by decide+kernel
noncomputable def aBK:aQ:=cF Tryz.f298 [6,4]
theorem aFx:aD Go.Proofs.Tryz.prog (fun _=>true) aBK 298=true:=by decide+kernel
noncomputable def aNf:aQ:=cF Tryz.f299 [3,16]
theorem aFy:aD Go.Proofs.Tryz.prog (fun _=>true) aNf 299=true:=by decide+kernel
noncomputable def aNg:aQ:=cF Tryz.f300 [42,0]
theorem aFz:aD Go.Proofs.Tryz.prog (fun _=>true) aNg 300=true:=by decide+kernel
noncomputable def aNh:aQ:=cF Tryz.f301 [31,0x40000e,6,3072,3072]
theorem aFA:aD Go.Proofs.Tryz.prog (fun _=>true) aNh 301=true:=by decide+kernel
noncomputable def aNi:aQ:=cF Tryz.f302 [113,0x2000071,192,0x8000070,192,192]
theorem aFB:aD Go.Proofs.Tryz.prog (fun _=>true) aNi 302=true:=by decide+kernel
noncomputable def aNj:aQ:=cF Tryz.f304 [3,387,387,899,419,65955,16,387,16]
theorem aFC:aD Go.Proofs.Tryz.prog (fun _=>true) aNj 304=true:=by decide+kernel
noncomputable def aNk:aQ:=cF Tryz.f305 [1,17,12]
theorem aFD:aD Go.Proofs.Tryz.prog (fun _=>true) aNk 305=true:=by decide+kernel
end Go.Proofs.YthljmpcakagceaaGreat
