/- The seat's functions as the logical machine runs them (reckoned), and the look at each of them (1). Printed by a program. -/
import Derived.Test.YtlnclppkepgdmaaGreatEVm2
import Derived.Test.YtlnclppkepgdmaaGreatProg
set_option maxRecDepth 100000
namespace Go.Proofs.YtlnclppkepgdmaaGreat
open Go.Vm
abbrev md:FuncId->CM:=aJi [11,47,48,91,103,104,114,125,169,180] [70,131,132,134,199,200,201,286,304] [68,148,150,151,177,235,287,306]
abbrev mdX (l:List FuncId) (f:FuncId):CM:=bif has l f then .pur else md f
noncomputable abbrev cF (fn:Go.Func) (ks:List Nat):aF:=aCv Go.Proofs.Tryz.prog fn ⟨md,ks,[],[],false⟩
noncomputable abbrev cG (fn:Go.Func) (m:FuncId->CM) (ks:List Nat) (a:List (Nat×List (Nat×Nat))) (b:List (Nat×List (Nat×Option Nat))):aF:=aCv Go.Proofs.Tryz.prog fn ⟨m,ks,a,b,false⟩
noncomputable def x5:aF:=cF Tryz.f5 [0,6,0x40000000000002,1,10,10,0x10000000000000a,26,0x200000000000001a,0x600000000000001a,26,0x10200000000000001a,26,0x200200000000000001a,26,0x8000200000000000001a,26,0x200000000000000000001a,26,26,90,346,2394,0x100000000000000000000000000000000a,1,10,8194,40962,237570,761858,0x4ba002,0x24ba002,0x64ba000,0x64ba000,0x264ba000,0x1624ba000,1]
theorem aHM:aD Go.Proofs.Tryz.prog (fun _=>true) x5 5=true:=by decide+kernel
noncomputable def x11:aF:=cF Tryz.f11 [6,4]
theorem aCL:aD Go.Proofs.Tryz.prog (fun _=>true) x11 11=true:=by decide+kernel
noncomputable def x12:aF:=cG Tryz.f12 md [28,156,0x40009c,112,0x800001c,112,284,0x400000001c,112,1052,1052,27676,0x4000000002c1c,25628,0x400000000000641c,112,1052,33820,164880,112] [(0,[(10,2)])] []
theorem aCM:aD Go.Proofs.Tryz.prog (fun _=>true) x12 12=true:=by decide+kernel
noncomputable def x15:aF:=cF Tryz.f15 [3,1027,16,35,35,16419,0x2000023,16,35,16]
theorem aCN:aD Go.Proofs.Tryz.prog (fun _=>true) x15 15=true:=by decide+kernel
noncomputable def x17:aF:=cF Tryz.f17 [28,212,32980,48,48]
theorem aCO:aD Go.Proofs.Tryz.prog (fun _=>true) x17 17=true:=by decide+kernel
noncomputable def x18:aF:=cF Tryz.f18 [28,284,48,16412,48,48]
theorem aCP:aD Go.Proofs.Tryz.prog (fun _=>true) x18 18=true:=by decide+kernel
noncomputable def x19:aF:=cF Tryz.f19 [2,18,1042,12,64,12]
theorem aCQ:aD Go.Proofs.Tryz.prog (fun _=>true) x19 19=true:=by decide+kernel
noncomputable def x21:aF:=cF Tryz.f21 [2,18,274,12,12]
theorem aCR:aD Go.Proofs.Tryz.prog (fun _=>true) x21 21=true:=by decide+kernel
noncomputable def x23:aF:=cF Tryz.f23 [2,10,0x8000002,4,18,18,18,0x40000000002,4,98,0x200000000000000000,4,4]
theorem aCS:aD Go.Proofs.Tryz.prog (fun _=>true) x23 23=true:=by decide+kernel
noncomputable def x25:aF:=cF Tryz.f25 [1,1]
theorem aCT:aD Go.Proofs.Tryz.prog (fun _=>true) x25 25=true:=by decide+kernel
noncomputable def x26:aF:=cF Tryz.f26 [5,4]
theorem aCU:aD Go.Proofs.Tryz.prog (fun _=>true) x26 26=true:=by decide+kernel
noncomputable def x27:aF:=cF Tryz.f27 [22,54,54,116,262260,116,48,16]
theorem aCV:aD Go.Proofs.Tryz.prog (fun _=>true) x27 27=true:=by decide+kernel
noncomputable def x28:aF:=cF Tryz.f28 [0,6,62,254,1]
theorem aCW:aD Go.Proofs.Tryz.prog (fun _=>true) x28 28=true:=by decide+kernel
noncomputable def x29:aF:=cF Tryz.f29 [2,258,4,10,10,8202,0x40000a,4,10,18,18,0x8000012,0x80000000012,4,18,4]
theorem aCX:aD Go.Proofs.Tryz.prog (fun _=>true) x29 29=true:=by decide+kernel
noncomputable def x31:aF:=cF Tryz.f31 [12,96,0x200060,0x4000000,16,16,0x20000060,16,16]
theorem aCY:aD Go.Proofs.Tryz.prog (fun _=>true) x31 31=true:=by decide+kernel
noncomputable def x32:aF:=cF Tryz.f32 [92,344,1856,0x2000740,192,192]
theorem aCZ:aD Go.Proofs.Tryz.prog (fun _=>true) x32 32=true:=by decide+kernel
noncomputable def x33:aF:=cF Tryz.f33 [28,16]
theorem aC0:aD Go.Proofs.Tryz.prog (fun _=>true) x33 33=true:=by decide+kernel
noncomputable def x36:aF:=cF Tryz.f36 [2,0x100000,4,4]
theorem aC1:aD Go.Proofs.Tryz.prog (fun _=>true) x36 36=true:=by decide+kernel
noncomputable def x40:aF:=cF Tryz.f40 [6,518,16,16]
theorem aC2:aD Go.Proofs.Tryz.prog (fun _=>true) x40 40=true:=by decide+kernel
noncomputable def x41:aF:=cF Tryz.f41 [60,1084,256,0x8000000c,256,256]
theorem aC3:aD Go.Proofs.Tryz.prog (fun _=>true) x41 41=true:=by decide+kernel
noncomputable def x42:aF:=cF Tryz.f42 [3,1027,16,35,35,16419,0x2000023,16,35,16]
theorem aC4:aD Go.Proofs.Tryz.prog (fun _=>true) x42 42=true:=by decide+kernel
noncomputable def x44:aF:=cF Tryz.f44 [9,41,41,553,131113,16,41,16]
theorem aC5:aD Go.Proofs.Tryz.prog (fun _=>true) x44 44=true:=by decide+kernel
noncomputable def x47:aF:=cF Tryz.f47 [6,4]
theorem aC6:aD Go.Proofs.Tryz.prog (fun _=>true) x47 47=true:=by decide+kernel
noncomputable def x48:aF:=cF Tryz.f48 [6,4]
theorem aC7:aD Go.Proofs.Tryz.prog (fun _=>true) x48 48=true:=by decide+kernel
noncomputable def x49:aF:=cF Tryz.f49 [2,0x100000,4,4]
theorem aC8:aD Go.Proofs.Tryz.prog (fun _=>true) x49 49=true:=by decide+kernel
noncomputable def x50:aF:=cF Tryz.f50 [12,76,4172,48,0x10000c,48,132,0x8000000080,128,48]
theorem aC9:aD Go.Proofs.Tryz.prog (fun _=>true) x50 50=true:=by decide+kernel
noncomputable def x51:aF:=cF Tryz.f51 [124,884,0x1000274,628,0x4000274,240,1140,7792,0x200000001e70,240,7280,240]
theorem aDa:aD Go.Proofs.Tryz.prog (fun _=>true) x51 51=true:=by decide+kernel
noncomputable def x52:aF:=cF Tryz.f52 [92,856,3392,0x10000d40,192,192]
theorem aDb:aD Go.Proofs.Tryz.prog (fun _=>true) x52 52=true:=by decide+kernel
noncomputable def x53:aF:=cF Tryz.f53 [28,220,524444,156,0x20009c,48,280,272,48]
theorem aDc:aD Go.Proofs.Tryz.prog (fun _=>true) x53 53=true:=by decide+kernel
noncomputable def x54:aF:=cG Tryz.f54 md [92,320,1344,3392,0xe000d40,0xe000d40,0x1e000d40,0xe003d40,0xe00ed40,0x80000e00ed40,0xe000d40,0xe000d40,192] [(0,[(11,2)])] []
theorem aDd:aD Go.Proofs.Tryz.prog (fun _=>true) x54 54=true:=by decide+kernel
noncomputable def x58:aF:=cF Tryz.f58 [12,16]
theorem aDe:aD Go.Proofs.Tryz.prog (fun _=>true) x58 58=true:=by decide+kernel
noncomputable def x59:aF:=cF Tryz.f59 [28,92,8284,48,156,524444,48,796,48]
theorem aDf:aD Go.Proofs.Tryz.prog (fun _=>true) x59 59=true:=by decide+kernel
noncomputable def x60:aF:=cF Tryz.f60 [2,10,10,2058,10,18,0x1c0010,0x1c0010,0x3c0010,0x1c0070,0x1c0010,0x1c0010,4]
theorem aDg:aD Go.Proofs.Tryz.prog (fun _=>true) x60 60=true:=by decide+kernel
noncomputable def x61:aF:=cG Tryz.f61 md [2,10,10,1034,10,26,58,58,32826,0x40003a,58,58,58,4] [(1,[(4,1)])] []
theorem aDh:aD Go.Proofs.Tryz.prog (fun _=>true) x61 61=true:=by decide+kernel
noncomputable def x62:aF:=cG Tryz.f62 md [2,10,26,26,2074,122,0x2000007a,0x100000007a,26,26,26,4] [(0,[(3,2)])] []
theorem aDi:aD Go.Proofs.Tryz.prog (fun _=>true) x62 62=true:=by decide+kernel
noncomputable def x63:aF:=cF Tryz.f63 [2,18,530,12,32,16416,12,12]
theorem aDj:aD Go.Proofs.Tryz.prog (fun _=>true) x63 63=true:=by decide+kernel
noncomputable def x65:aF:=cF Tryz.f65 [2,0x7000002,0x7000002,0xf000002,0x7000012,0x87000002,4,0x7000002,0x800000000002,4,34,0x70000000000022,0x70000000000022,0xf0000000000022,0x700000000000a2,0x700000000007a2,0x4000700000000003a2,4,0x10000700000000001a2,0x10000000700000000001a2,4,0x700000000009a2,0x40000000000000000070000000000022,4,0x70000000000022,0x70000000000022,0x1000000000000000000000000000000000,4,4]
theorem aDk:aD Go.Proofs.Tryz.prog (fun _=>true) x65 65=true:=by decide+kernel
noncomputable def x66:aF:=cF Tryz.f66 [2,10,0x40000002,4,0x400000002,4,0x7000000002,0x7000000002,0xf000000002,0x7000000032,0x70000000e2,0x400000007000000002,4,0x7000000002,4]
theorem aDl:aD Go.Proofs.Tryz.prog (fun _=>true) x66 66=true:=by decide+kernel
noncomputable def x68:aF:=cF Tryz.f68 [3,35,4131,16,99,99,524387,227,0x200000e3,99,99,99,33,16]
theorem aDm:aD Go.Proofs.Tryz.prog (fun _=>true) x68 68=true:=by decide+kernel
noncomputable def x69:aF:=cF Tryz.f69 [1,4]
theorem aDn:aD Go.Proofs.Tryz.prog (fun _=>true) x69 69=true:=by decide+kernel
noncomputable def x71:aF:=cF Tryz.f71 [7,16391,64,229382,229382,491526,229766,230150,0x40038006,64,229382,64]
theorem aDo:aD Go.Proofs.Tryz.prog (fun _=>true) x71 71=true:=by decide+kernel
noncomputable def x72:aF:=cF Tryz.f72 [9,16]
theorem aDp:aD Go.Proofs.Tryz.prog (fun _=>true) x72 72=true:=by decide+kernel
noncomputable def x73:aF:=cF Tryz.f73 [3,1027,16,12291,12291,28675,12323,0x1003003,16,12291,16]
theorem aDq:aD Go.Proofs.Tryz.prog (fun _=>true) x73 73=true:=by decide+kernel
noncomputable def x74:aF:=cF Tryz.f74 [12,44,16]
theorem aDr:aD Go.Proofs.Tryz.prog (fun _=>true) x74 74=true:=by decide+kernel
noncomputable def x82:aF:=cG Tryz.f82 md [22,54,118,118,16502,0x1000076,118,118,16] [] [(0,[(5,some 2003)])]
theorem aDs:aD Go.Proofs.Tryz.prog (fun _=>true) x82 82=true:=by decide+kernel
noncomputable def x83:aF:=cF Tryz.f83 [6,38,38,1062,0x100026,16,38,16]
theorem aDt:aD Go.Proofs.Tryz.prog (fun _=>true) x83 83=true:=by decide+kernel
noncomputable def x84:aF:=cF Tryz.f84 [28,56,248,0x4000f8,248,248,248,240,0x100000000070,48,16]
theorem aDu:aD Go.Proofs.Tryz.prog (fun _=>true) x84 84=true:=by decide+kernel
noncomputable def x85:aF:=cF Tryz.f85 [2,0x40000000,4,4]
theorem aDv:aD Go.Proofs.Tryz.prog (fun _=>true) x85 85=true:=by decide+kernel
noncomputable def x86:aF:=cF Tryz.f86 [19,51,48,16]
theorem aDw:aD Go.Proofs.Tryz.prog (fun _=>true) x86 86=true:=by decide+kernel
noncomputable def x87:aF:=cF Tryz.f87 [2,1026,4,4096,4,4]
theorem aDx:aD Go.Proofs.Tryz.prog (fun _=>true) x87 87=true:=by decide+kernel
noncomputable def x88:aF:=cF Tryz.f88 [12,524,16384,16,16,524300,0x1000000,16,16,16]
theorem aDy:aD Go.Proofs.Tryz.prog (fun _=>true) x88 88=true:=by decide+kernel
noncomputable def x89:aF:=cF Tryz.f89 [92,64]
theorem aDz:aD Go.Proofs.Tryz.prog (fun _=>true) x89 89=true:=by decide+kernel
noncomputable def x90:aF:=cG Tryz.f90 (mdX [47]) [92,348,860,860,0x80035c,0x80000035c,860,860,0x2000000000154,3396,0x200000000000d44,192,324,4420,4420,0x10000000000001144,0x2000000000000001144,45380,0x200000000000000000b144,192,4420,4420,192] [] []
theorem aDA:aD Go.Proofs.Tryz.prog (fun _=>true) x90 90=true:=by decide+kernel
noncomputable def x91:aF:=cF Tryz.f91 [6,4]
theorem aDB:aD Go.Proofs.Tryz.prog (fun _=>true) x91 91=true:=by decide+kernel
noncomputable def x92:aF:=cG Tryz.f92 md [5,13,29,29,1053,29,29,4] [] [(0,[(3,some 5001)])]
theorem aDC:aD Go.Proofs.Tryz.prog (fun _=>true) x92 92=true:=by decide+kernel
noncomputable def x94:aF:=cF Tryz.f94 [3,3,67,3,16]
theorem aDD:aD Go.Proofs.Tryz.prog (fun _=>true) x94 94=true:=by decide+kernel
noncomputable def x95:aF:=cF Tryz.f95 [1,17,4,4]
theorem aDE:aD Go.Proofs.Tryz.prog (fun _=>true) x95 95=true:=by decide+kernel
noncomputable def x96:aF:=cF Tryz.f96 [2,4]
theorem aDF:aD Go.Proofs.Tryz.prog (fun _=>true) x96 96=true:=by decide+kernel
noncomputable def x97:aF:=cF Tryz.f97 [6,38,38,1062,0x100026,16,38,16]
theorem aDG:aD Go.Proofs.Tryz.prog (fun _=>true) x97 97=true:=by decide+kernel
noncomputable def x98:aF:=cF Tryz.f98 [56,152,8344,64,0x100018,64,64]
theorem aDH:aD Go.Proofs.Tryz.prog (fun _=>true) x98 98=true:=by decide+kernel
noncomputable def aDI:aF:=cF Tryz.f103 [6,4]
theorem TH:aD Go.Proofs.Tryz.prog (fun _=>true) aDI 103=true:=by decide+kernel
noncomputable def aDJ:aF:=cF Tryz.f104 [6,4]
theorem TI:aD Go.Proofs.Tryz.prog (fun _=>true) aDJ 104=true:=by decide+kernel
noncomputable def aDK:aF:=cF Tryz.f105 [3,3,67,3,16]
theorem TJ:aD Go.Proofs.Tryz.prog (fun _=>true) aDK 105=true:=by decide+kernel
noncomputable def aDL:aF:=cF Tryz.f106 [1,17,4,4]
theorem TK:aD Go.Proofs.Tryz.prog (fun _=>true) aDL 106=true:=by decide+kernel
noncomputable def aDM:aF:=cF Tryz.f107 [12,16]
theorem TL:aD Go.Proofs.Tryz.prog (fun _=>true) aDM 107=true:=by decide+kernel
noncomputable def aDN:aF:=cF Tryz.f108 [3,35,99,2115,4096,16,16,8195,16,65539,16,524288,16,16]
theorem TM:aD Go.Proofs.Tryz.prog (fun _=>true) aDN 108=true:=by decide+kernel
noncomputable def aDO:aF:=cF Tryz.f109 [12,44,4140,16,16]
theorem TN:aD Go.Proofs.Tryz.prog (fun _=>true) aDO 109=true:=by decide+kernel
noncomputable def aDP:aF:=cF Tryz.f110 [19,115,16]
theorem TO:aD Go.Proofs.Tryz.prog (fun _=>true) aDP 110=true:=by decide+kernel
noncomputable def aDQ:aF:=cF Tryz.f111 [12,76,524364,48,140,0x2000000c,48,1544,0x2000000208,48,2048,48]
theorem TP:aD Go.Proofs.Tryz.prog (fun _=>true) aDQ 111=true:=by decide+kernel
noncomputable def aDR:aF:=cF Tryz.f112 [54,950,0x20003b6,112,1462,1334,7476,0x10000000d34,44336,0x8000000000ad30,112,1328,112]
theorem TQ:aD Go.Proofs.Tryz.prog (fun _=>true) aDR 112=true:=by decide+kernel
noncomputable def aDS:aF:=cF Tryz.f113 [92,348,0x80015c,192,604,0x2000025c,192,0x70000005c,0x70000005c,0xf0000005c,0x70000085c,0x400000070000005c,192,0x70000005c,0xe000000000000005c,0xe000000000000005c,0x1e000000000000005c,0xe000000000000305c,0x100e000000000000005c,192,0xe000000000000005c,0x38000000000000000005c,0x38000000000000000005c,0x78000000000000000005c,0x38000000000000000805c,0x38000000000000002805c,0x3800000000000000a005c,0x10000038000000000000000005c,192,0x38000000000000000005c,192]
theorem TR:aD Go.Proofs.Tryz.prog (fun _=>true) aDS 113=true:=by decide+kernel
noncomputable def aDT:aF:=cF Tryz.f114 [6,6,6,14,6,4]
theorem TS:aD Go.Proofs.Tryz.prog (fun _=>true) aDT 114=true:=by decide+kernel
noncomputable def aDU:aF:=cF Tryz.f115 [92,348,16732,131420,348,0x400015c,348,0x8000015c,348,0x100000015c,192,600,1624,1624,0x8000000000658,1624,1624,192]
theorem TU:aD Go.Proofs.Tryz.prog (fun _=>true) aDU 115=true:=by decide+kernel
noncomputable def TV:aF:=cF Tryz.f116 [3,259,8,8]
theorem TW:aD Go.Proofs.Tryz.prog (fun _=>true) TV 116=true:=by decide+kernel
noncomputable def aDV:aF:=cF Tryz.f119 [12,4108,16,44,44,131116,0x4000002c,16,44,16]
theorem TX:aD Go.Proofs.Tryz.prog (fun _=>true) aDV 119=true:=by decide+kernel
noncomputable def aDW:aF:=cF Tryz.f122 [2,2050,4,57346,57346,122882,57362,57378,0x40e022,4,57346,0x1c000002,0x1c000002,0x3c000002,0x1c0000c2,0x40001c000002,4,0x1c000002,4]
theorem TY:aD Go.Proofs.Tryz.prog (fun _=>true) aDW 122=true:=by decide+kernel
noncomputable def aDX:aF:=cF Tryz.f123 [5,53,4149,12,12]
theorem TZ:aD Go.Proofs.Tryz.prog (fun _=>true) aDX 123=true:=by decide+kernel
noncomputable def aDY:aF:=cF Tryz.f125 [3,1027,3,97,0x4000041,65,129,384,384,0x2000000180,384,16]
theorem T0:aD Go.Proofs.Tryz.prog (fun _=>true) aDY 125=true:=by decide+kernel
noncomputable def aDZ:aF:=cF Tryz.f126 [6,38,4134,16,16]
theorem T1:aD Go.Proofs.Tryz.prog (fun _=>true) aDZ 126=true:=by decide+kernel
noncomputable def aD0:aF:=cF Tryz.f128 [2,0x100002,4,26,0x380001a,0x380001a,0x780001a,0x380005a,0x800000380004a,4,0x380001a,0x380001a,4]
theorem T2:aD Go.Proofs.Tryz.prog (fun _=>true) aD0 128=true:=by decide+kernel
noncomputable def aD1:aF:=cF Tryz.f129 [2,0x1000000002,4,0x1c000000002,0x1c000000002,0x3c000000002,0x1c00000001a,0x801c00000001a,0x2001c000000002,4,0x8000000001c000000002,4,0x1c000000002,34,0x3800000000000000000022,0x3800000000000000000022,0x7800000000000000000022,0x38000000000000000000e2,0x20000038000000000000000000e2,4,0x38000000000000000000e2,0x40000000003800000000000000000022,4,0x3800000000000000000022,4]
theorem T3:aD Go.Proofs.Tryz.prog (fun _=>true) aD1 129=true:=by decide+kernel
noncomputable def aD2:aF:=cF Tryz.f130 [120,448]
theorem T4:aD Go.Proofs.Tryz.prog (fun _=>true) aD2 130=true:=by decide+kernel
noncomputable def Q1:aF:=aCv Go.Proofs.Tryz.prog Tryz.f131 ⟨md,[1,9,4],[],[],true⟩
theorem T5:aD Go.Proofs.Tryz.prog (fun _=>true) Q1 131=true:=by decide+kernel
noncomputable def OM:aF:=cF Tryz.f132 [9,16]
theorem T6:aD Go.Proofs.Tryz.prog (fun _=>true) OM 132=true:=by decide+kernel
noncomputable def aD3:aF:=cF Tryz.f133 [1,4]
theorem T7:aD Go.Proofs.Tryz.prog (fun _=>true) aD3 133=true:=by decide+kernel
noncomputable def IX:aF:=cF Tryz.f134 [3,387,387,899,419,65955,16,387,16]
theorem T8:aD Go.Proofs.Tryz.prog (fun _=>true) IX 134=true:=by decide+kernel
noncomputable def T9:aF:=cF Tryz.f137 [6,8]
theorem UA:aD Go.Proofs.Tryz.prog (fun _=>true) T9 137=true:=by decide+kernel
noncomputable def aD4:aF:=cF Tryz.f138 [9,16]
theorem UB:aD Go.Proofs.Tryz.prog (fun _=>true) aD4 138=true:=by decide+kernel
noncomputable def aD5:aF:=cF Tryz.f139 [3,16]
theorem UC:aD Go.Proofs.Tryz.prog (fun _=>true) aD5 139=true:=by decide+kernel
noncomputable def aD6:aF:=cF Tryz.f140 [2,524290,4,10,10,0x100000a,26,0x800000000000001a,4,58,58,0x4000000000000003a,0x2000000000000000003a,4,58,10,4]
theorem UD:aD Go.Proofs.Tryz.prog (fun _=>true) aD6 140=true:=by decide+kernel
noncomputable def aD7:aF:=cF Tryz.f143 [120,192]
theorem UE:aD Go.Proofs.Tryz.prog (fun _=>true) aD7 143=true:=by decide+kernel
noncomputable def aD8:aF:=cF Tryz.f146 [12,44,44,1068,0x10002c,16,44,16]
theorem UF:aD Go.Proofs.Tryz.prog (fun _=>true) aD8 146=true:=by decide+kernel
noncomputable def aD9:aF:=cF Tryz.f148 [14,14,0]
theorem UG:aD Go.Proofs.Tryz.prog (fun _=>true) aD9 148=true:=by decide+kernel
noncomputable def aEa:aF:=cF Tryz.f149 [28,56,56,48,16]
theorem UH:aD Go.Proofs.Tryz.prog (fun _=>true) aEa 149=true:=by decide+kernel
noncomputable def aEb:aF:=cF Tryz.f150 [6,6,22,4118,0x100000016,22,0x400000000016,20,6]
theorem UI:aD Go.Proofs.Tryz.prog (fun _=>true) aEb 150=true:=by decide+kernel
noncomputable def aEc:aF:=cF Tryz.f151 [6,6,0x200006,6,6,16]
theorem UJ:aD Go.Proofs.Tryz.prog (fun _=>true) aEc 151=true:=by decide+kernel
noncomputable def aEd:aF:=cF Tryz.f152 [19,496,1008,1776,3760,16]
theorem UK:aD Go.Proofs.Tryz.prog (fun _=>true) aEd 152=true:=by decide+kernel
noncomputable def aEe:aF:=cF Tryz.f153 [92,216,472,472,0x4001d8,472,472,64]
theorem UL:aD Go.Proofs.Tryz.prog (fun _=>true) aEe 153=true:=by decide+kernel
noncomputable def aEf:aF:=cG Tryz.f154 (mdX [47,91]) [28,92,92,92,220,220,0x20000dc,476,988,4060,0x8000000000fdc,4060,4060,0x40000000000000000fdc,4060,0x4000000000000000000005dc,0x80000000000000000000005dc,48,12764,8668,220,220,48] [] [(0,[(6,some 11003)])]
theorem UM:aD Go.Proofs.Tryz.prog (fun _=>true) aEf 154=true:=by decide+kernel
noncomputable def aEg:aF:=cF Tryz.f155 [28,924,0x100039c,112,1436,1308,7444,0x20000000d14,112,0x1000000000d14,112,25872,17680,1296,112]
theorem UN:aD Go.Proofs.Tryz.prog (fun _=>true) aEg 155=true:=by decide+kernel
noncomputable def aEh:aF:=cG Tryz.f156 md [5,13,28,28,8220,28,28,4] [] [(0,[(3,some 3001)])]
theorem UO:aD Go.Proofs.Tryz.prog (fun _=>true) aEh 156=true:=by decide+kernel
noncomputable def aEi:aF:=cF Tryz.f159 [56,312,16696,192,192]
theorem UP:aD Go.Proofs.Tryz.prog (fun _=>true) aEi 159=true:=by decide+kernel
noncomputable def aEj:aF:=cF Tryz.f160 [56,64]
theorem UQ:aD Go.Proofs.Tryz.prog (fun _=>true) aEj 160=true:=by decide+kernel
noncomputable def aEk:aF:=cF Tryz.f163 [28,92,4188,48,524316,48,48]
theorem UR:aD Go.Proofs.Tryz.prog (fun _=>true) aEk 163=true:=by decide+kernel
noncomputable def aEl:aF:=cF Tryz.f169 [6,4]
theorem US:aD Go.Proofs.Tryz.prog (fun _=>true) aEl 169=true:=by decide+kernel
noncomputable def aEm:aF:=cF Tryz.f170 [1,4]
theorem UT:aD Go.Proofs.Tryz.prog (fun _=>true) aEm 170=true:=by decide+kernel
noncomputable def aEn:aF:=cF Tryz.f171 [3,35,99,2115,4096,16,16,8195,16,65539,16,524288,16,16]
theorem UU:aD Go.Proofs.Tryz.prog (fun _=>true) aEn 171=true:=by decide+kernel
noncomputable def aEo:aF:=cF Tryz.f172 [3,67,195,451,963,1987,2755,6851,12995,12931,19,48]
theorem UV:aD Go.Proofs.Tryz.prog (fun _=>true) aEo 172=true:=by decide+kernel
noncomputable def aEp:aF:=cF Tryz.f173 [6,22,278,12,16390,12,12]
theorem UW:aD Go.Proofs.Tryz.prog (fun _=>true) aEp 173=true:=by decide+kernel
noncomputable def aEq:aF:=cF Tryz.f174 [54,436,65972,112,112]
theorem UX:aD Go.Proofs.Tryz.prog (fun _=>true) aEq 174=true:=by decide+kernel
noncomputable def aEr:aF:=cF Tryz.f175 [3,48]
theorem UY:aD Go.Proofs.Tryz.prog (fun _=>true) aEr 175=true:=by decide+kernel
noncomputable def aEs:aF:=cF Tryz.f176 [60,436,65972,112,112]
theorem UZ:aD Go.Proofs.Tryz.prog (fun _=>true) aEs 176=true:=by decide+kernel
noncomputable def aEt:aF:=cF Tryz.f177 [7,7,65543,64,135,129,1,64]
theorem U0:aD Go.Proofs.Tryz.prog (fun _=>true) aEt 177=true:=by decide+kernel
noncomputable def aEu:aF:=cF Tryz.f178 [22,212,32980,48,48]
theorem U1:aD Go.Proofs.Tryz.prog (fun _=>true) aEu 178=true:=by decide+kernel
noncomputable def aEv:aF:=cF Tryz.f179 [92,229468,229468,491612,229980,0x203825c,229468,229468,92,0x1000000005c,1100,0x100000000044c,192,0x38000000000048,0x38000000000048,0x78000000000048,0x38000000001048,0x2038000000001048,0x38000000000448,0x400038000000000448,192,0x38000000000048,192]
theorem U2:aD Go.Proofs.Tryz.prog (fun _=>true) aEv 179=true:=by decide+kernel
noncomputable def aEw:aF:=cF Tryz.f180 [6,6,6,6,14,14,6,4]
theorem U3:aD Go.Proofs.Tryz.prog (fun _=>true) aEw 180=true:=by decide+kernel
noncomputable def aEx:aF:=cF Tryz.f185 [12,40,552,16,16]
theorem U4:aD Go.Proofs.Tryz.prog (fun _=>true) aEx 185=true:=by decide+kernel
noncomputable def aEy:aF:=cF Tryz.f186 [6,16]
theorem U5:aD Go.Proofs.Tryz.prog (fun _=>true) aEy 186=true:=by decide+kernel
noncomputable def aEz:aF:=cF Tryz.f187 [60,262204,256,572,2620,8204,0x200000000000c,256,256]
theorem U6:aD Go.Proofs.Tryz.prog (fun _=>true) aEz 187=true:=by decide+kernel
noncomputable def aEA:aF:=cF Tryz.f191 [2,10,0x800000,4,4]
theorem U7:aD Go.Proofs.Tryz.prog (fun _=>true) aEA 191=true:=by decide+kernel
noncomputable def aEB:aF:=cF Tryz.f192 [5,2053,12,21,0x300015,0x300015,0x700015,0x300035,0x300015,0x300015,12]
theorem U8:aD Go.Proofs.Tryz.prog (fun _=>true) aEB 192=true:=by decide+kernel
noncomputable def aEC:aF:=cF Tryz.f193 [3,192,48,768,48]
theorem U9:aD Go.Proofs.Tryz.prog (fun _=>true) aEC 193=true:=by decide+kernel
noncomputable def aED:aF:=cF Tryz.f194 [2,4]
theorem VA:aD Go.Proofs.Tryz.prog (fun _=>true) aED 194=true:=by decide+kernel
noncomputable def aEE:aF:=cF Tryz.f195 [2,10,0x80000a,4,26,50,0x800000002,4,0xe000000002,0xe000000002,0x1e000000002,0xe0000000c2,0x100000e000000002,4,0xe000000002,4]
theorem VB:aD Go.Proofs.Tryz.prog (fun _=>true) aEE 195=true:=by decide+kernel
noncomputable def aEF:aF:=cF Tryz.f196 [12,44,16]
theorem VC:aD Go.Proofs.Tryz.prog (fun _=>true) aEF 196=true:=by decide+kernel
noncomputable def aEG:aF:=cF Tryz.f197 [120,632,131704,448,0x1000078,448,0x40000058,448,3136,448]
theorem VD:aD Go.Proofs.Tryz.prog (fun _=>true) aEG 197=true:=by decide+kernel
noncomputable def aEH:aF:=cF Tryz.f198 [22,116,32820,16,16]
theorem VE:aD Go.Proofs.Tryz.prog (fun _=>true) aEH 198=true:=by decide+kernel
noncomputable def Q2:aF:=cF Tryz.f199 [3,19,16,8]
theorem VF:aD Go.Proofs.Tryz.prog (fun _=>true) Q2 199=true:=by decide+kernel
noncomputable def K9:aF:=cF Tryz.f200 [3,16]
theorem VG:aD Go.Proofs.Tryz.prog (fun _=>true) K9 200=true:=by decide+kernel
noncomputable def ON:aF:=cF Tryz.f201 [3,8]
theorem VH:aD Go.Proofs.Tryz.prog (fun _=>true) ON 201=true:=by decide+kernel
end Go.Proofs.YtlnclppkepgdmaaGreat
