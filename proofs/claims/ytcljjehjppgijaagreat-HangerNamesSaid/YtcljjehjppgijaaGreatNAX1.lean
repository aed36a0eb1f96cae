/- The seat's functions as the logical machine runs them (reckoned), and the look at each of them (1). Printed by a program. -/
import Derived.Test.YtcljjehjppgijaaGreatNVm2
import Derived.Test.YtcljjehjppgijaaGreatProg
set_option maxRecDepth 100000
namespace Go.Proofs.YtcljjehjppgijaaGreat
open Go.Vm
abbrev md:FuncId->CM:=aIC [10,46,103,105,106,121,165,177,195] [125,236,267,274,285] [107,109,110,111,128,174,224,268,287]
abbrev mdX (l:List FuncId) (f:FuncId):CM:=bif has l f then .pur else md f
noncomputable abbrev cF (fn:Go.Func) (ks:List Nat):aG:=aCd Go.Proofs.Tryz.prog fn ⟨md,ks,[],[],false⟩
noncomputable abbrev cG (fn:Go.Func) (m:FuncId->CM) (ks:List Nat) (a:List (Nat×List (Nat×Nat))) (b:List (Nat×List (Nat×Option Nat))):aG:=aCd Go.Proofs.Tryz.prog fn ⟨m,ks,a,b,false⟩
noncomputable def x3:aG:=cF Tryz.f3 [0,6,0x800000000000002,1,10,10,0x200000000000000a,26,0x4000000000000001a,0xc000000000000001a,26,0x104000000000000001a,26,0x4004000000000000001a,26,0x100000000000000000001a,26,90,346,2394,10586,43354,174426,0x2000000000000000000000000000000000000a,1,10,524290,0x280002,0xe80002,0x2e80002,0x12e80002,0x92e80002,0x292e80002,0xa92e80002,0x2a92e80002,0x6a92e80000,0x6a92e80000,0x26a92e80000,0xa2a92e80000,0x3a2a92e80000,1]
theorem aG0:aD Go.Proofs.Tryz.prog (fun _=>true) x3 3=true:=by decide+kernel
noncomputable def x7:aG:=cF Tryz.f7 [28,284,48,16412,48,48]
theorem aG1:aD Go.Proofs.Tryz.prog (fun _=>true) x7 7=true:=by decide+kernel
noncomputable def x8:aG:=cF Tryz.f8 [1,1]
theorem aG2:aD Go.Proofs.Tryz.prog (fun _=>true) x8 8=true:=by decide+kernel
noncomputable def x9:aG:=cF Tryz.f9 [5,4]
theorem aG3:aD Go.Proofs.Tryz.prog (fun _=>true) x9 9=true:=by decide+kernel
noncomputable def x10:aG:=cF Tryz.f10 [6,4]
theorem aCt:aD Go.Proofs.Tryz.prog (fun _=>true) x10 10=true:=by decide+kernel
noncomputable def x11:aG:=cF Tryz.f11 [22,54,54,116,262260,116,48,16]
theorem aCu:aD Go.Proofs.Tryz.prog (fun _=>true) x11 11=true:=by decide+kernel
noncomputable def x12:aG:=cF Tryz.f12 [2,18,1042,12,64,12]
theorem aCv:aD Go.Proofs.Tryz.prog (fun _=>true) x12 12=true:=by decide+kernel
noncomputable def x13:aG:=cF Tryz.f13 [2,18,530,12,34,32802,12,12]
theorem aCw:aD Go.Proofs.Tryz.prog (fun _=>true) x13 13=true:=by decide+kernel
noncomputable def x14:aG:=cG Tryz.f14 md [28,156,0x40009c,112,0x800001c,112,284,0x400000001c,112,1052,1052,27676,0x4000000002c1c,25628,0x80000000000641c,112,1052,33816,164880,112] [(0,[(10,2)])] []
theorem aCx:aD Go.Proofs.Tryz.prog (fun _=>true) x14 14=true:=by decide+kernel
noncomputable def x15:aG:=cF Tryz.f15 [28,48]
theorem aCy:aD Go.Proofs.Tryz.prog (fun _=>true) x15 15=true:=by decide+kernel
noncomputable def x16:aG:=cF Tryz.f16 [28,48]
theorem aCz:aD Go.Proofs.Tryz.prog (fun _=>true) x16 16=true:=by decide+kernel
noncomputable def x17:aG:=cF Tryz.f17 [28,48]
theorem aCA:aD Go.Proofs.Tryz.prog (fun _=>true) x17 17=true:=by decide+kernel
noncomputable def x18:aG:=cF Tryz.f18 [2,1026,4,26,0x800000012,4,0x38000000010,0x38000000010,0x78000000010,0x38000000050,0x2038000000010,4,0x38000000010,4]
theorem aCB:aD Go.Proofs.Tryz.prog (fun _=>true) x18 18=true:=by decide+kernel
noncomputable def x19:aG:=cF Tryz.f19 [28,212,32980,48,48]
theorem aCC:aD Go.Proofs.Tryz.prog (fun _=>true) x19 19=true:=by decide+kernel
noncomputable def x20:aG:=cF Tryz.f20 [0,6,62,254,1]
theorem aCD:aD Go.Proofs.Tryz.prog (fun _=>true) x20 20=true:=by decide+kernel
noncomputable def x21:aG:=cF Tryz.f21 [3,1027,16,35,35,16419,0x2000023,16,35,16]
theorem aCE:aD Go.Proofs.Tryz.prog (fun _=>true) x21 21=true:=by decide+kernel
noncomputable def x24:aG:=cF Tryz.f24 [12,96,0x200060,0x4000000,16,16,0x20000060,16,16]
theorem aCF:aD Go.Proofs.Tryz.prog (fun _=>true) x24 24=true:=by decide+kernel
noncomputable def x27:aG:=cF Tryz.f27 [3,1027,16,35,35,16419,0x2000023,16,35,16]
theorem aCG:aD Go.Proofs.Tryz.prog (fun _=>true) x27 27=true:=by decide+kernel
noncomputable def x28:aG:=cF Tryz.f28 [9,41,41,553,131113,16,41,16]
theorem aCH:aD Go.Proofs.Tryz.prog (fun _=>true) x28 28=true:=by decide+kernel
noncomputable def x31:aG:=cF Tryz.f31 [2,258,4,10,10,8202,0x40000a,4,10,18,18,0x8000012,0x80000000012,4,18,4]
theorem aCI:aD Go.Proofs.Tryz.prog (fun _=>true) x31 31=true:=by decide+kernel
noncomputable def x32:aG:=cF Tryz.f32 [2,0x100000,4,4]
theorem aCJ:aD Go.Proofs.Tryz.prog (fun _=>true) x32 32=true:=by decide+kernel
noncomputable def x40:aG:=cF Tryz.f40 [6,38,38,1062,0x100026,16,38,16]
theorem aCK:aD Go.Proofs.Tryz.prog (fun _=>true) x40 40=true:=by decide+kernel
noncomputable def x44:aG:=cF Tryz.f44 [28,92,464,0x8001d0,48,48]
theorem aCL:aD Go.Proofs.Tryz.prog (fun _=>true) x44 44=true:=by decide+kernel
noncomputable def x45:aG:=cF Tryz.f45 [28,16]
theorem aCM:aD Go.Proofs.Tryz.prog (fun _=>true) x45 45=true:=by decide+kernel
noncomputable def x46:aG:=cF Tryz.f46 [6,4]
theorem aCN:aD Go.Proofs.Tryz.prog (fun _=>true) x46 46=true:=by decide+kernel
noncomputable def x47:aG:=cG Tryz.f47 md [22,54,118,118,16502,0x1000076,118,118,16] [] [(0,[(5,some 2003)])]
theorem aCO:aD Go.Proofs.Tryz.prog (fun _=>true) x47 47=true:=by decide+kernel
noncomputable def x48:aG:=cF Tryz.f48 [6,38,38,1062,0x100026,16,38,16]
theorem aCP:aD Go.Proofs.Tryz.prog (fun _=>true) x48 48=true:=by decide+kernel
noncomputable def x49:aG:=cF Tryz.f49 [28,56,248,0x4000f8,248,248,248,240,0x100000000070,48,16]
theorem aCQ:aD Go.Proofs.Tryz.prog (fun _=>true) x49 49=true:=by decide+kernel
noncomputable def x50:aG:=aCd Go.Proofs.Tryz.prog Tryz.f50 ⟨md,[12,76,68,196,452,0x1c01c0,0x1c01c0,0x3c01c0,0x1c05c0,0x1c05c0,0x8001c05c0,0x1c01c0,0x1c01c0,48],[(0,[(7,1),(8,2)])],[],true⟩
theorem aCR:aD Go.Proofs.Tryz.prog (fun _=>true) x50 50=true:=by decide+kernel
noncomputable def x51:aG:=cF Tryz.f51 [3,387,387,899,419,65955,16,387,16]
theorem aCS:aD Go.Proofs.Tryz.prog (fun _=>true) x51 51=true:=by decide+kernel
noncomputable def x52:aG:=cF Tryz.f52 [2,0x100000,4,4]
theorem aCT:aD Go.Proofs.Tryz.prog (fun _=>true) x52 52=true:=by decide+kernel
noncomputable def x53:aG:=cF Tryz.f53 [12,76,4172,48,0x10000c,48,132,0x8000000080,128,48]
theorem aCU:aD Go.Proofs.Tryz.prog (fun _=>true) x53 53=true:=by decide+kernel
noncomputable def x54:aG:=cF Tryz.f54 [124,884,0x1000274,628,0x4000274,240,1140,7792,0x200000001e70,240,7280,240]
theorem aCV:aD Go.Proofs.Tryz.prog (fun _=>true) x54 54=true:=by decide+kernel
noncomputable def x55:aG:=cF Tryz.f55 [28,220,848,0x2000350,48,48]
theorem aCW:aD Go.Proofs.Tryz.prog (fun _=>true) x55 55=true:=by decide+kernel
noncomputable def x56:aG:=cF Tryz.f56 [28,220,524444,156,0x20009c,48,280,272,48]
theorem aCX:aD Go.Proofs.Tryz.prog (fun _=>true) x56 56=true:=by decide+kernel
noncomputable def x57:aG:=cF Tryz.f57 [22,86,4182,48,404,0x1000194,48,48]
theorem aCY:aD Go.Proofs.Tryz.prog (fun _=>true) x57 57=true:=by decide+kernel
noncomputable def x58:aG:=cF Tryz.f58 [14,24]
theorem aCZ:aD Go.Proofs.Tryz.prog (fun _=>true) x58 58=true:=by decide+kernel
noncomputable def x59:aG:=cF Tryz.f59 [28,92,8284,48,156,524444,48,796,0x2000011c,48,0x40000011c,48,48]
theorem aC0:aD Go.Proofs.Tryz.prog (fun _=>true) x59 59=true:=by decide+kernel
noncomputable def x60:aG:=cF Tryz.f60 [14,24]
theorem aC1:aD Go.Proofs.Tryz.prog (fun _=>true) x60 60=true:=by decide+kernel
noncomputable def x61:aG:=cF Tryz.f61 [22,212,32980,48,48]
theorem aC2:aD Go.Proofs.Tryz.prog (fun _=>true) x61 61=true:=by decide+kernel
noncomputable def x62:aG:=cF Tryz.f62 [14,24]
theorem aC3:aD Go.Proofs.Tryz.prog (fun _=>true) x62 62=true:=by decide+kernel
noncomputable def x63:aG:=cF Tryz.f63 [28,92,16476,48,156,0x10009c,48,796,0x8000031c,48,1304,1040,48]
theorem aC4:aD Go.Proofs.Tryz.prog (fun _=>true) x63 63=true:=by decide+kernel
noncomputable def x64:aG:=cF Tryz.f64 [2,0x7000002,0x7000002,0xf000002,0x7000012,0x87000002,4,0x7000002,0x800000000002,4,34,0x70000000000022,0x70000000000022,0xf0000000000022,0x700000000000a2,0x700000000007a2,0x4000700000000003a2,4,0x10000700000000001a2,0x10000000700000000001a2,4,0x700000000009a2,0x40000000000000000070000000000022,4,0x70000000000022,0x70000000000022,0x1000000000000000000000000000000000,4,4]
theorem aC5:aD Go.Proofs.Tryz.prog (fun _=>true) x64 64=true:=by decide+kernel
noncomputable def x65:aG:=cF Tryz.f65 [3,1027,16,12291,12291,28675,12323,0x1003003,16,12291,16]
theorem aC6:aD Go.Proofs.Tryz.prog (fun _=>true) x65 65=true:=by decide+kernel
noncomputable def x66:aG:=cF Tryz.f66 [9,16]
theorem aC7:aD Go.Proofs.Tryz.prog (fun _=>true) x66 66=true:=by decide+kernel
noncomputable def x67:aG:=cF Tryz.f67 [28,92,8284,48,156,524444,48,796,48]
theorem aC8:aD Go.Proofs.Tryz.prog (fun _=>true) x67 67=true:=by decide+kernel
noncomputable def x71:aG:=cF Tryz.f71 [19,51,48,16]
theorem aC9:aD Go.Proofs.Tryz.prog (fun _=>true) x71 71=true:=by decide+kernel
noncomputable def x72:aG:=cF Tryz.f72 [2,1026,4,4096,4,4]
theorem aDa:aD Go.Proofs.Tryz.prog (fun _=>true) x72 72=true:=by decide+kernel
noncomputable def x73:aG:=cF Tryz.f73 [12,524,16384,16,16,524300,0x1000000,16,16,16]
theorem aDb:aD Go.Proofs.Tryz.prog (fun _=>true) x73 73=true:=by decide+kernel
noncomputable def x82:aG:=cF Tryz.f82 [2,0x40000000,4,4]
theorem aDc:aD Go.Proofs.Tryz.prog (fun _=>true) x82 82=true:=by decide+kernel
noncomputable def x83:aG:=cF Tryz.f83 [3,3,67,3,16]
theorem aDd:aD Go.Proofs.Tryz.prog (fun _=>true) x83 83=true:=by decide+kernel
noncomputable def x84:aG:=cF Tryz.f84 [1,17,4,4]
theorem aDe:aD Go.Proofs.Tryz.prog (fun _=>true) x84 84=true:=by decide+kernel
noncomputable def x96:aG:=cF Tryz.f96 [2,4]
theorem aDf:aD Go.Proofs.Tryz.prog (fun _=>true) x96 96=true:=by decide+kernel
noncomputable def x97:aG:=cF Tryz.f97 [56,152,8344,64,0x100018,64,64]
theorem aDg:aD Go.Proofs.Tryz.prog (fun _=>true) x97 97=true:=by decide+kernel
noncomputable def aDh:aG:=cF Tryz.f100 [12,36,100,228,228,524516,228,228,16]
theorem S2:aD Go.Proofs.Tryz.prog (fun _=>true) aDh 100=true:=by decide+kernel
noncomputable def aDi:aG:=cG Tryz.f101 (mdX [46]) [92,348,860,860,0x80035c,0x80000035c,860,860,0x2000000000154,3396,0x200000000000d44,192,324,4420,4420,0x10000000000001144,0x2000000000000001144,45380,0x200000000000000000b144,192,4420,4420,192] [] []
theorem S3:aD Go.Proofs.Tryz.prog (fun _=>true) aDi 101=true:=by decide+kernel
noncomputable def aDj:aG:=cG Tryz.f102 md [6,38,102,102,1126,131174,102,102,16] [(0,[(5,2)])] []
theorem S4:aD Go.Proofs.Tryz.prog (fun _=>true) aDj 102=true:=by decide+kernel
noncomputable def aDk:aG:=cF Tryz.f103 [6,4]
theorem S5:aD Go.Proofs.Tryz.prog (fun _=>true) aDk 103=true:=by decide+kernel
noncomputable def aDl:aG:=cG Tryz.f104 md [5,13,29,29,1053,29,29,4] [] [(0,[(3,some 5001)])]
theorem S6:aD Go.Proofs.Tryz.prog (fun _=>true) aDl 104=true:=by decide+kernel
noncomputable def aDm:aG:=cF Tryz.f105 [6,4]
theorem S7:aD Go.Proofs.Tryz.prog (fun _=>true) aDm 105=true:=by decide+kernel
noncomputable def aDn:aG:=cF Tryz.f106 [6,4]
theorem S8:aD Go.Proofs.Tryz.prog (fun _=>true) aDn 106=true:=by decide+kernel
noncomputable def aDo:aG:=cF Tryz.f107 [14,14,0]
theorem S9:aD Go.Proofs.Tryz.prog (fun _=>true) aDo 107=true:=by decide+kernel
noncomputable def aDp:aG:=cF Tryz.f108 [28,56,56,48,16]
theorem TA:aD Go.Proofs.Tryz.prog (fun _=>true) aDp 108=true:=by decide+kernel
noncomputable def aDq:aG:=cF Tryz.f109 [6,6,22,4118,0x100000016,22,0x400000000016,20,6]
theorem TB:aD Go.Proofs.Tryz.prog (fun _=>true) aDq 109=true:=by decide+kernel
noncomputable def aDr:aG:=cF Tryz.f110 [6,6,0x200006,6,6,16]
theorem TC:aD Go.Proofs.Tryz.prog (fun _=>true) aDr 110=true:=by decide+kernel
noncomputable def aDs:aG:=cG Tryz.f111 md [93,0x20005d,1117,0x1c00045d,0x1c00045d,0x3c00045d,0x1c00145d,0x1c00345d,0x801c00145d,0x1c00045d,0x1c00045d,1113,33881,0x1c00000008458,0x1c00000008458,0x3c00000008458,0x1c00000028458,0x101c00000028458,0x1c00000068458,0x1c00000008458,0x1c00000008458,33880,0] [] [(1,[(15,some 1003),(15,some 2003)])]
theorem TD:aD Go.Proofs.Tryz.prog (fun _=>true) aDs 111=true:=by decide+kernel
noncomputable def aDt:aG:=cF Tryz.f112 [3,3,67,3,16]
theorem TE:aD Go.Proofs.Tryz.prog (fun _=>true) aDt 112=true:=by decide+kernel
noncomputable def aDu:aG:=cF Tryz.f113 [1,17,4,4]
theorem TF:aD Go.Proofs.Tryz.prog (fun _=>true) aDu 113=true:=by decide+kernel
noncomputable def aDv:aG:=cF Tryz.f114 [12,16]
theorem TG:aD Go.Proofs.Tryz.prog (fun _=>true) aDv 114=true:=by decide+kernel
noncomputable def aDw:aG:=cF Tryz.f115 [3,35,99,2115,4096,16,16,8195,16,65539,16,524288,16,16]
theorem TH:aD Go.Proofs.Tryz.prog (fun _=>true) aDw 115=true:=by decide+kernel
noncomputable def aDx:aG:=cF Tryz.f116 [12,44,4140,16,16]
theorem TI:aD Go.Proofs.Tryz.prog (fun _=>true) aDx 116=true:=by decide+kernel
noncomputable def aDy:aG:=cF Tryz.f117 [19,115,16]
theorem TJ:aD Go.Proofs.Tryz.prog (fun _=>true) aDy 117=true:=by decide+kernel
noncomputable def aDz:aG:=cF Tryz.f118 [12,76,524364,48,140,0x2000000c,48,1544,0x2000000208,48,2048,48]
theorem TK:aD Go.Proofs.Tryz.prog (fun _=>true) aDz 118=true:=by decide+kernel
noncomputable def aDA:aG:=cF Tryz.f119 [54,950,0x20003b6,112,1462,1334,7476,0x10000000d34,44336,0x8000000000ad30,112,1328,112]
theorem TL:aD Go.Proofs.Tryz.prog (fun _=>true) aDA 119=true:=by decide+kernel
noncomputable def aDB:aG:=cF Tryz.f120 [92,348,0x80015c,192,604,0x2000025c,192,0x70000005c,0x70000005c,0xf0000005c,0x70000085c,0x400000070000005c,192,0x70000005c,0xe000000000000005c,0xe000000000000005c,0x1e000000000000005c,0xe000000000000305c,0x100e000000000000005c,192,0xe000000000000005c,0x38000000000000000005c,0x38000000000000000005c,0x78000000000000000005c,0x38000000000000000805c,0x38000000000000002805c,0x3800000000000000a005c,0x10000038000000000000000005c,192,0x38000000000000000005c,192]
theorem TM:aD Go.Proofs.Tryz.prog (fun _=>true) aDB 120=true:=by decide+kernel
noncomputable def aDC:aG:=cF Tryz.f121 [6,6,6,14,6,4]
theorem TN:aD Go.Proofs.Tryz.prog (fun _=>true) aDC 121=true:=by decide+kernel
noncomputable def aDD:aG:=cF Tryz.f122 [2,2050,4,57346,57346,122882,57362,57378,0x40e022,4,57346,0x1c000002,0x1c000002,0x3c000002,0x1c0000c2,0x40001c000002,4,0x1c000002,4]
theorem TO:aD Go.Proofs.Tryz.prog (fun _=>true) aDD 122=true:=by decide+kernel
noncomputable def aDE:aG:=cF Tryz.f123 [2,10,0x800000,4,4]
theorem TP:aD Go.Proofs.Tryz.prog (fun _=>true) aDE 123=true:=by decide+kernel
noncomputable def aDF:aG:=cF Tryz.f124 [6,48]
theorem TQ:aD Go.Proofs.Tryz.prog (fun _=>true) aDF 124=true:=by decide+kernel
noncomputable def aDG:aG:=cF Tryz.f127 [6,70,4166,48,384,0x200080,48,48]
theorem TR:aD Go.Proofs.Tryz.prog (fun _=>true) aDG 127=true:=by decide+kernel
noncomputable def aDH:aG:=cF Tryz.f128 [7,7,65543,64,135,129,1,64]
theorem TS:aD Go.Proofs.Tryz.prog (fun _=>true) aDH 128=true:=by decide+kernel
noncomputable def aDI:aG:=cF Tryz.f129 [2,0x100002,4,26,0x380001a,0x380001a,0x780001a,0x380005a,0x800000380004a,4,0x380001a,0x380001a,4]
theorem TU:aD Go.Proofs.Tryz.prog (fun _=>true) aDI 129=true:=by decide+kernel
noncomputable def aDJ:aG:=cF Tryz.f130 [2,0x1000000002,4,0x1c000000002,0x1c000000002,0x3c000000002,0x1c00000001a,0x801c00000001a,0x2001c000000002,4,0x8000000001c000000002,4,0x1c000000002,34,0x3800000000000000000022,0x3800000000000000000022,0x7800000000000000000022,0x38000000000000000000e2,0x20000038000000000000000000e2,4,0x38000000000000000000e2,0x40000000003800000000000000000022,4,0x3800000000000000000022,4]
theorem TV:aD Go.Proofs.Tryz.prog (fun _=>true) aDJ 130=true:=by decide+kernel
noncomputable def aDK:aG:=cF Tryz.f131 [120,448]
theorem TW:aD Go.Proofs.Tryz.prog (fun _=>true) aDK 131=true:=by decide+kernel
noncomputable def aDL:aG:=cF Tryz.f132 [9,393,393,905,425,65961,16,393,16]
theorem TX:aD Go.Proofs.Tryz.prog (fun _=>true) aDL 132=true:=by decide+kernel
noncomputable def aDM:aG:=cF Tryz.f133 [5,53,4149,12,12]
theorem TY:aD Go.Proofs.Tryz.prog (fun _=>true) aDM 133=true:=by decide+kernel
noncomputable def aDN:aG:=cF Tryz.f137 [19,496,1008,1776,3760,16]
theorem TZ:aD Go.Proofs.Tryz.prog (fun _=>true) aDN 137=true:=by decide+kernel
noncomputable def aDO:aG:=cF Tryz.f140 [28,92,4188,48,524316,48,48]
theorem T0:aD Go.Proofs.Tryz.prog (fun _=>true) aDO 140=true:=by decide+kernel
noncomputable def aDP:aG:=cF Tryz.f145 [12,4108,16,44,44,131116,0x4000002c,16,44,16]
theorem T1:aD Go.Proofs.Tryz.prog (fun _=>true) aDP 145=true:=by decide+kernel
noncomputable def aDQ:aG:=cF Tryz.f151 [56,312,16696,192,192]
theorem T2:aD Go.Proofs.Tryz.prog (fun _=>true) aDQ 151=true:=by decide+kernel
noncomputable def aDR:aG:=cF Tryz.f155 [56,64]
theorem T3:aD Go.Proofs.Tryz.prog (fun _=>true) aDR 155=true:=by decide+kernel
noncomputable def aDS:aG:=cG Tryz.f159 md [7,8199,64,133,389,389,0x200185,901,1925,1925,0x8000785,0x4000000785,1925,1925,389,389,64] [(0,[(7,2)]),(1,[(9,1)])] []
theorem T4:aD Go.Proofs.Tryz.prog (fun _=>true) aDS 159=true:=by decide+kernel
noncomputable def aDT:aG:=cF Tryz.f160 [12,44,108,108,32876,108,108,16]
theorem T5:aD Go.Proofs.Tryz.prog (fun _=>true) aDT 160=true:=by decide+kernel
noncomputable def aDU:aG:=cG Tryz.f161 (mdX [46,103]) [28,92,92,92,220,220,0x20000dc,476,988,4060,0x8000000000fdc,4060,4060,0x40000000000000000fdc,4060,0x4000000000000000000005dc,0x80000000000000000000005dc,48,12764,8668,220,220,48] [] [(0,[(6,some 11003)])]
theorem T6:aD Go.Proofs.Tryz.prog (fun _=>true) aDU 161=true:=by decide+kernel
noncomputable def aDV:aG:=cF Tryz.f162 [12,44,44,1068,0x10002c,16,44,16]
theorem T7:aD Go.Proofs.Tryz.prog (fun _=>true) aDV 162=true:=by decide+kernel
noncomputable def aDW:aG:=cF Tryz.f163 [28,924,0x100039c,112,1436,1308,7444,0x20000000d14,112,0x1000000000d14,112,25872,17680,1296,112]
theorem T8:aD Go.Proofs.Tryz.prog (fun _=>true) aDW 163=true:=by decide+kernel
noncomputable def aDX:aG:=cG Tryz.f164 md [5,13,28,28,8220,28,28,4] [] [(0,[(3,some 3001)])]
theorem T9:aD Go.Proofs.Tryz.prog (fun _=>true) aDX 164=true:=by decide+kernel
noncomputable def aDY:aG:=cF Tryz.f165 [6,4]
theorem UA:aD Go.Proofs.Tryz.prog (fun _=>true) aDY 165=true:=by decide+kernel
noncomputable def aDZ:aG:=cF Tryz.f166 [12,44,16]
theorem UB:aD Go.Proofs.Tryz.prog (fun _=>true) aDZ 166=true:=by decide+kernel
noncomputable def aD0:aG:=cF Tryz.f167 [1,4]
theorem UC:aD Go.Proofs.Tryz.prog (fun _=>true) aD0 167=true:=by decide+kernel
noncomputable def aD1:aG:=cF Tryz.f168 [3,35,99,2115,4096,16,16,8195,16,65539,16,524288,16,16]
theorem UD:aD Go.Proofs.Tryz.prog (fun _=>true) aD1 168=true:=by decide+kernel
noncomputable def aD2:aG:=cF Tryz.f169 [3,67,195,451,963,1987,2755,6851,12995,12931,19,48]
theorem UE:aD Go.Proofs.Tryz.prog (fun _=>true) aD2 169=true:=by decide+kernel
noncomputable def aD3:aG:=cF Tryz.f170 [6,22,278,12,16390,12,12]
theorem UF:aD Go.Proofs.Tryz.prog (fun _=>true) aD3 170=true:=by decide+kernel
noncomputable def aD4:aG:=cF Tryz.f171 [54,436,65972,112,112]
theorem UG:aD Go.Proofs.Tryz.prog (fun _=>true) aD4 171=true:=by decide+kernel
noncomputable def aD5:aG:=cF Tryz.f172 [3,48]
theorem UH:aD Go.Proofs.Tryz.prog (fun _=>true) aD5 172=true:=by decide+kernel
noncomputable def aD6:aG:=cF Tryz.f173 [60,436,65972,112,112]
theorem UI:aD Go.Proofs.Tryz.prog (fun _=>true) aD6 173=true:=by decide+kernel
noncomputable def aD7:aG:=cF Tryz.f174 [7,7,65543,64,135,129,1,64]
theorem UJ:aD Go.Proofs.Tryz.prog (fun _=>true) aD7 174=true:=by decide+kernel
noncomputable def aD8:aG:=cF Tryz.f175 [22,212,32980,48,48]
theorem UK:aD Go.Proofs.Tryz.prog (fun _=>true) aD8 175=true:=by decide+kernel
noncomputable def aD9:aG:=cF Tryz.f176 [92,229468,229468,491612,229980,0x203825c,229468,229468,92,0x1000000005c,1100,0x100000000044c,192,0x38000000000048,0x38000000000048,0x78000000000048,0x38000000001048,0x2038000000001048,0x38000000000448,0x400038000000000448,192,0x38000000000048,192]
theorem UL:aD Go.Proofs.Tryz.prog (fun _=>true) aD9 176=true:=by decide+kernel
noncomputable def aEa:aG:=cF Tryz.f177 [6,6,6,6,14,14,6,4]
theorem UM:aD Go.Proofs.Tryz.prog (fun _=>true) aEa 177=true:=by decide+kernel
noncomputable def aEb:aG:=cF Tryz.f183 [1,4]
theorem UN:aD Go.Proofs.Tryz.prog (fun _=>true) aEb 183=true:=by decide+kernel
noncomputable def aEc:aG:=cF Tryz.f184 [7,263,1799,1799,132871,3847,0x80000f07,1799,1799,192]
theorem UO:aD Go.Proofs.Tryz.prog (fun _=>true) aEc 184=true:=by decide+kernel
noncomputable def aEd:aG:=cF Tryz.f185 [6,16]
theorem UP:aD Go.Proofs.Tryz.prog (fun _=>true) aEd 185=true:=by decide+kernel
noncomputable def aEe:aG:=cF Tryz.f186 [3,35,99,2115,4096,16,16,8195,16,65539,16,524288,16,16]
theorem UQ:aD Go.Proofs.Tryz.prog (fun _=>true) aEe 186=true:=by decide+kernel
noncomputable def aEf:aG:=cF Tryz.f189 [2,4]
theorem UR:aD Go.Proofs.Tryz.prog (fun _=>true) aEf 189=true:=by decide+kernel
noncomputable def aEg:aG:=cF Tryz.f190 [2,10,0x80000a,4,26,50,0x800000002,4,0xe000000002,0xe000000002,0x1e000000002,0xe0000000c2,0x100000e000000002,4,0xe000000002,4]
theorem US:aD Go.Proofs.Tryz.prog (fun _=>true) aEg 190=true:=by decide+kernel
noncomputable def aEh:aG:=cF Tryz.f191 [12,44,16]
theorem UT:aD Go.Proofs.Tryz.prog (fun _=>true) aEh 191=true:=by decide+kernel
noncomputable def aEi:aG:=cF Tryz.f192 [120,632,131704,448,0x1000078,448,0x40000058,448,3136,448]
theorem UU:aD Go.Proofs.Tryz.prog (fun _=>true) aEi 192=true:=by decide+kernel
noncomputable def aEj:aG:=cF Tryz.f193 [22,116,32820,16,16]
theorem UV:aD Go.Proofs.Tryz.prog (fun _=>true) aEj 193=true:=by decide+kernel
noncomputable def aEk:aG:=cF Tryz.f194 [5,2053,12,21,0x300015,0x300015,0x700015,0x300035,0x300015,0x300015,12]
theorem UW:aD Go.Proofs.Tryz.prog (fun _=>true) aEk 194=true:=by decide+kernel
noncomputable def aEl:aG:=cF Tryz.f195 [3,1027,3,97,0x4000041,65,129,384,384,0x2000000180,384,16]
theorem UX:aD Go.Proofs.Tryz.prog (fun _=>true) aEl 195=true:=by decide+kernel
noncomputable def aEm:aG:=cF Tryz.f197 [2,524290,4,10,10,0x100000a,26,0x800000000000001a,4,58,58,0x4000000000000003a,0x2000000000000000003a,4,58,10,4]
theorem UY:aD Go.Proofs.Tryz.prog (fun _=>true) aEm 197=true:=by decide+kernel
noncomputable def aEn:aG:=cF Tryz.f200 [120,192]
theorem UZ:aD Go.Proofs.Tryz.prog (fun _=>true) aEn 200=true:=by decide+kernel
noncomputable def aEo:aG:=cF Tryz.f204 [56,152,65688,64,0x400000,64,64]
theorem U0:aD Go.Proofs.Tryz.prog (fun _=>true) aEo 204=true:=by decide+kernel
noncomputable def aEp:aG:=cF Tryz.f205 [19,275,48,83,48]
theorem U1:aD Go.Proofs.Tryz.prog (fun _=>true) aEp 205=true:=by decide+kernel
noncomputable def aEq:aG:=cF Tryz.f208 [1,9,456,456,968,488,16872,4,456,4]
theorem U2:aD Go.Proofs.Tryz.prog (fun _=>true) aEq 208=true:=by decide+kernel
noncomputable def aEr:aG:=cF Tryz.f212 [3,16]
theorem U3:aD Go.Proofs.Tryz.prog (fun _=>true) aEr 212=true:=by decide+kernel
noncomputable def aEs:aG:=cF Tryz.f213 [56,152,0x10000098,0x80000000,64,64,64]
theorem U4:aD Go.Proofs.Tryz.prog (fun _=>true) aEs 213=true:=by decide+kernel
noncomputable def aEt:aG:=cF Tryz.f215 [28,4124,52,0x40000030,48,16,0x800000001c,84,80,16,152,144,16]
theorem U5:aD Go.Proofs.Tryz.prog (fun _=>true) aEt 215=true:=by decide+kernel
noncomputable def aEu:aG:=cF Tryz.f217 [56,184,440,440,8632,0x4000001b8,440,440,64]
theorem U6:aD Go.Proofs.Tryz.prog (fun _=>true) aEu 217=true:=by decide+kernel
noncomputable def aEv:aG:=cF Tryz.f218 [120,240,480,448,192,64]
theorem U7:aD Go.Proofs.Tryz.prog (fun _=>true) aEv 218=true:=by decide+kernel
noncomputable def aEw:aG:=cF Tryz.f219 [2,10,4]
theorem U8:aD Go.Proofs.Tryz.prog (fun _=>true) aEw 219=true:=by decide+kernel
noncomputable def aEx:aG:=cF Tryz.f220 [220,468,2004,1492,1472,1472,1472,192]
theorem U9:aD Go.Proofs.Tryz.prog (fun _=>true) aEx 220=true:=by decide+kernel
noncomputable def aEy:aG:=cF Tryz.f221 [28,32796,112,524316,112,0x2000001c,112,156,148,148,112]
theorem VA:aD Go.Proofs.Tryz.prog (fun _=>true) aEy 221=true:=by decide+kernel
noncomputable def aEz:aG:=cF Tryz.f222 [1,4]
theorem VB:aD Go.Proofs.Tryz.prog (fun _=>true) aEz 222=true:=by decide+kernel
noncomputable def aEA:aG:=cF Tryz.f223 [6,70,4166,48,384,0x400080,48,48]
theorem VC:aD Go.Proofs.Tryz.prog (fun _=>true) aEA 223=true:=by decide+kernel
noncomputable def aEB:aG:=cF Tryz.f224 [7,7,65543,64,135,129,1,64]
theorem VD:aD Go.Proofs.Tryz.prog (fun _=>true) aEB 224=true:=by decide+kernel
noncomputable def aEC:aG:=cF Tryz.f225 [7,263,1799,1799,132871,3847,0x80000f07,1799,1799,192]
theorem VE:aD Go.Proofs.Tryz.prog (fun _=>true) aEC 225=true:=by decide+kernel
noncomputable def aED:aG:=cF Tryz.f226 [6,16]
theorem VF:aD Go.Proofs.Tryz.prog (fun _=>true) aED 226=true:=by decide+kernel
noncomputable def aEE:aG:=cF Tryz.f227 [12,76,4172,48,396,0x400000c,48,48]
theorem VG:aD Go.Proofs.Tryz.prog (fun _=>true) aEE 227=true:=by decide+kernel
noncomputable def aEF:aG:=cF Tryz.f228 [54,182,950,0x80003b6,112,1458,3506,7602,7346,0x2000000000014b2,1200,112]
theorem VH:aD Go.Proofs.Tryz.prog (fun _=>true) aEF 228=true:=by decide+kernel
noncomputable def aEG:aG:=cF Tryz.f229 [22,86,8278,48,656,48]
theorem VI:aD Go.Proofs.Tryz.prog (fun _=>true) aEG 229=true:=by decide+kernel
noncomputable def aEH:aG:=cF Tryz.f230 [3,1027,16,12291,12291,28675,12323,0x1003003,16,12291,16]
theorem VJ:aD Go.Proofs.Tryz.prog (fun _=>true) aEH 230=true:=by decide+kernel
noncomputable def aEI:aG:=cG Tryz.f231 (mdX [121]) [28,92,0x40005c,48,156,0x1000009c,48,0xe0000001c,0xe0000001c,0x1e0000001c,0xe0000021c,0x40000e0000001c,48,0xe0000001c,1052,1052,0x38000000000000041c,0x38000000000000041c,0x78000000000000041c,0x38000000000000141c,0x38000000000000f41c,0x38000000000003f41c,0x8000038000000000003f41c,0x38000000000001841c,0x38000000000000841c,0x100000000000038000000000003b41c,0x38000000000004341c,0x38000000000004341c,0x38000000000004841c,0x38000000000000841c,0x80000000000000000038000000000001841c,0x38000000000000841c,0x1000000000000000000000038000000000000841c,48,0x38000000000000041c,48] [] [(1,[(10,some 11003)])]
theorem VK:aD Go.Proofs.Tryz.prog (fun _=>true) aEI 231=true:=by decide+kernel
noncomputable def VL:aG:=cF Tryz.f232 [6,8]
theorem VM:aD Go.Proofs.Tryz.prog (fun _=>true) VL 232=true:=by decide+kernel
noncomputable def aEJ:aG:=cF Tryz.f233 [28,156,412,0x20019c,112,3740,0x2000000e9c,112,0x800000000000e9c,112,0x40000000000000e9c,112,5788,5276,31892,0x10000000000000000007c94,112,0x800000000000000000003494,234640,0x400000000000000000000039490,112,5136,112]
theorem VN:aD Go.Proofs.Tryz.prog (fun _=>true) aEJ 233=true:=by decide+kernel
noncomputable def aEK:aG:=cF Tryz.f234 [1,4]
theorem VO:aD Go.Proofs.Tryz.prog (fun _=>true) aEK 234=true:=by decide+kernel
noncomputable def VP:aG:=cF Tryz.f236 [3,16]
theorem VQ:aD Go.Proofs.Tryz.prog (fun _=>true) VP 236=true:=by decide+kernel
noncomputable def VS:aG:=cF Tryz.f237 [7,131077,16,0,16]
theorem VT:aD Go.Proofs.Tryz.prog (fun _=>true) VS 237=true:=by decide+kernel
noncomputable def aEL:aG:=cF Tryz.f238 [3,16]
theorem VU:aD Go.Proofs.Tryz.prog (fun _=>true) aEL 238=true:=by decide+kernel
noncomputable def aEM:aG:=cF Tryz.f239 [6,16]
theorem VV:aD Go.Proofs.Tryz.prog (fun _=>true) aEM 239=true:=by decide+kernel
noncomputable def aEN:aG:=cF Tryz.f240 [3,192,48,768,48]
theorem VW:aD Go.Proofs.Tryz.prog (fun _=>true) aEN 240=true:=by decide+kernel
noncomputable def aEO:aG:=cF Tryz.f244 [120,2168,192,131160,192,192]
theorem VX:aD Go.Proofs.Tryz.prog (fun _=>true) aEO 244=true:=by decide+kernel
noncomputable def aEP:aG:=cF Tryz.f246 [78,0x100004c,192,328,0x200000140,320,192]
theorem VY:aD Go.Proofs.Tryz.prog (fun _=>true) aEP 246=true:=by decide+kernel
noncomputable def aEQ:aG:=cF Tryz.f258 [3,387,387,899,419,65955,16,387,16]
theorem VZ:aD Go.Proofs.Tryz.prog (fun _=>true) aEQ 258=true:=by decide+kernel
noncomputable def aER:aG:=cF Tryz.f259 [6,14,6156,6156,14348,6188,6380,6572,0x200019ac,6572,0x10000019ac,6540,7948,6156,6156,4]
theorem V0:aD Go.Proofs.Tryz.prog (fun _=>true) aER 259=true:=by decide+kernel
noncomputable def aES:aG:=cF Tryz.f260 [28,60,0x200030,48,16]
theorem V1:aD Go.Proofs.Tryz.prog (fun _=>true) aES 260=true:=by decide+kernel
noncomputable def aET:aG:=cF Tryz.f262 [14,28,60,60,60,60,12]
theorem V2:aD Go.Proofs.Tryz.prog (fun _=>true) aET 262=true:=by decide+kernel
noncomputable def aEU:aG:=cF Tryz.f263 [7,263,1799,1799,132871,3847,0x80000f07,1799,1799,192]
theorem V3:aD Go.Proofs.Tryz.prog (fun _=>true) aEU 263=true:=by decide+kernel
noncomputable def aEV:aG:=cF Tryz.f264 [6,16]
theorem V4:aD Go.Proofs.Tryz.prog (fun _=>true) aEV 264=true:=by decide+kernel
noncomputable def aEW:aG:=cF Tryz.f265 [12,76,1100,48,48]
theorem V5:aD Go.Proofs.Tryz.prog (fun _=>true) aEW 265=true:=by decide+kernel
noncomputable def aEX:aG:=cF Tryz.f266 [28,220,65756,48,0x10001c,48,284,272,48]
theorem V6:aD Go.Proofs.Tryz.prog (fun _=>true) aEX 266=true:=by decide+kernel
noncomputable def N3:aG:=cF Tryz.f267 [6,6,4]
theorem V7:aD Go.Proofs.Tryz.prog (fun _=>true) N3 267=true:=by decide+kernel
noncomputable def aEY:aG:=cF Tryz.f268 [42,42,0x10002a,42,42,106,106,0x2000000006a,0x2000000000000006a,106,0x800000000000000006a,104,42,106,0]
theorem V8:aD Go.Proofs.Tryz.prog (fun _=>true) aEY 268=true:=by decide+kernel
noncomputable def aEZ:aG:=cF Tryz.f269 [120,376,524664,192,1640,0x20000668,192,2656,6752,6720,2112,192]
theorem V9:aD Go.Proofs.Tryz.prog (fun _=>true) aEZ 269=true:=by decide+kernel
noncomputable def aE0:aG:=cF Tryz.f270 [248,760,0x2002f8,448,0x400000f8,448,0x10000000f8,448,7416,0x800000001cf8,448,11504,27840,26816,10432,448]
theorem WA:aD Go.Proofs.Tryz.prog (fun _=>true) aE0 270=true:=by decide+kernel
noncomputable def aE1:aG:=cF Tryz.f271 [5,28]
theorem WB:aD Go.Proofs.Tryz.prog (fun _=>true) aE1 271=true:=by decide+kernel
noncomputable def aE2:aG:=cF Tryz.f272 [28,156,4252,112,131100,112,0x40001c,112,0x10000001c,112,276,112]
theorem WC:aD Go.Proofs.Tryz.prog (fun _=>true) aE2 272=true:=by decide+kernel
noncomputable def WD:aG:=cF Tryz.f274 [3,387,387,899,419,65955,16,387,16]
theorem WE:aD Go.Proofs.Tryz.prog (fun _=>true) WD 274=true:=by decide+kernel
noncomputable def aE3:aG:=cF Tryz.f275 [3,387,387,899,419,65955,16,387,16]
theorem WF:aD Go.Proofs.Tryz.prog (fun _=>true) aE3 275=true:=by decide+kernel
noncomputable def aE4:aG:=cF Tryz.f276 [3,64,48]
theorem WG:aD Go.Proofs.Tryz.prog (fun _=>true) aE4 276=true:=by decide+kernel
noncomputable def aE5:aG:=cF Tryz.f277 [28,48,16]
theorem WH:aD Go.Proofs.Tryz.prog (fun _=>true) aE5 277=true:=by decide+kernel
noncomputable def QJ:aG:=cF Tryz.f285 [6,4]
theorem WI:aD Go.Proofs.Tryz.prog (fun _=>true) QJ 285=true:=by decide+kernel
noncomputable def aE6:aG:=cF Tryz.f286 [3,16]
theorem WJ:aD Go.Proofs.Tryz.prog (fun _=>true) aE6 286=true:=by decide+kernel
noncomputable def aE7:aG:=cF Tryz.f287 [42,0]
theorem WK:aD Go.Proofs.Tryz.prog (fun _=>true) aE7 287=true:=by decide+kernel
noncomputable def aE8:aG:=cF Tryz.f288 [3,16]
theorem WL:aD Go.Proofs.Tryz.prog (fun _=>true) aE8 288=true:=by decide+kernel
noncomputable def WM:aG:=cF Tryz.f289 [6,8]
theorem WN:aD Go.Proofs.Tryz.prog (fun _=>true) WM 289=true:=by decide+kernel
noncomputable def aE9:aG:=cF Tryz.f290 [14,46,4142,28,524302,28,206,0x2000000ce,28,460,396,396,28]
theorem WQ:aD Go.Proofs.Tryz.prog (fun _=>true) aE9 290=true:=by decide+kernel
noncomputable def WR:aG:=cF Tryz.f291 [6,8]
theorem WT:aD Go.Proofs.Tryz.prog (fun _=>true) WR 291=true:=by decide+kernel
noncomputable def aFa:aG:=cF Tryz.f292 [19,275,48,83,48]
theorem WU:aD Go.Proofs.Tryz.prog (fun _=>true) aFa 292=true:=by decide+kernel
noncomputable def aFb:aG:=cF Tryz.f295 [3,387,387,899,419,65955,16,387,16]
theorem WV:aD Go.Proofs.Tryz.prog (fun _=>true) aFb 295=true:=by decide+kernel
noncomputable def aFc:aG:=cF Tryz.f296 [1,17,12]
theorem WW:aD Go.Proofs.Tryz.prog (fun _=>true) aFc 296=true:=by decide+kernel
noncomputable def aFd:aG:=cF Tryz.f297 [113,0x2000071,192,0x8000070,192,192]
theorem WX:aD Go.Proofs.Tryz.prog (fun _=>true) aFd 297=true:=by decide+kernel
end Go.Proofs.YtcljjehjppgijaaGreat
