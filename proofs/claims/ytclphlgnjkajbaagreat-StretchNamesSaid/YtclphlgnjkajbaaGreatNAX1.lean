/- The seat's functions as the logical machine runs them (reckoned), and the look at each of them (1). Printed by a program. -/
import Derived.Test.YtclphlgnjkajbaaGreatNVm2
import Derived.Test.YtclphlgnjkajbaaGreatProg
set_option maxRecDepth 100000
namespace Go.Proofs.YtclphlgnjkajbaaGreat
open Go.Vm
abbrev md:FuncId->CM:=aUP [36,101,126,156,182,183,184,216,243,284] [27,84,91,97,160,161,179,262,263,264,285,383,411] [39,96,246,325,334,378,384,397,399,400,408]
abbrev mdX (l:List FuncId) (f:FuncId):CM:=bif has l f then .pur else md f
noncomputable abbrev cF (fn:Go.Func) (ks:List Nat):aJ:=aAN Go.Proofs.Tryz.prog fn ⟨md,ks,[],[],false⟩
noncomputable abbrev cG (fn:Go.Func) (m:FuncId->CM) (ks:List Nat) (a:List (Nat×List (Nat×Nat))) (b:List (Nat×List (Nat×Option Nat))):aJ:=aAN Go.Proofs.Tryz.prog fn ⟨m,ks,a,b,false⟩
noncomputable def x5:aJ:=cF Tryz.f5 [0,4,20,116,500,1524,5620,30196,62964,128500,128500,0x2000000000001f5f4,128500,128500,456180,0x1e75f4,0x9e75f4,0x39e75f4,0x139e75f4,0xf39e75f4,1]
theorem aSo:aD Go.Proofs.Tryz.prog (fun _=>true) x5 5=true:=by decide+kernel
noncomputable def x8:aJ:=cF Tryz.f8 [0,6,14,62,246,1]
theorem aSp:aD Go.Proofs.Tryz.prog (fun _=>true) x8 8=true:=by decide+kernel
noncomputable def x9:aJ:=cF Tryz.f9 [1,129,12,17,16,12]
theorem aSq:aD Go.Proofs.Tryz.prog (fun _=>true) x9 9=true:=by decide+kernel
noncomputable def x11:aJ:=cF Tryz.f11 [5,4]
theorem aLB:aD Go.Proofs.Tryz.prog (fun _=>true) x11 11=true:=by decide+kernel
noncomputable def x12:aJ:=cF Tryz.f12 [28,92,16476,48,412,0x400019c,48,668,1692,0x100000069c,1692,1692,660,48]
theorem aLC:aD Go.Proofs.Tryz.prog (fun _=>true) x12 12=true:=by decide+kernel
noncomputable def x13:aJ:=cF Tryz.f13 [22,86,16470,48,406,0x4000196,48,662,660,1684,0x2000000000694,1684,660,48]
theorem aLD:aD Go.Proofs.Tryz.prog (fun _=>true) x13 13=true:=by decide+kernel
noncomputable def x18:aJ:=cF Tryz.f18 [54,694,0x40002b6,112,0x1000000b6,112,1078,9270,0xe00000002434,0xe00000002434,0x1e00000002434,0xe0000000a434,0xe00000072434,0x800e00000032434,0xe00000022434,0xe00000002434,0xe00000002434,0xe00000002434,9264,112]
theorem aLE:aD Go.Proofs.Tryz.prog (fun _=>true) x18 18=true:=by decide+kernel
noncomputable def x20:aJ:=cF Tryz.f20 [12,16]
theorem aLF:aD Go.Proofs.Tryz.prog (fun _=>true) x20 20=true:=by decide+kernel
noncomputable def x21:aJ:=cF Tryz.f21 [1,1025,12,17,17,8209,17,12]
theorem aLG:aD Go.Proofs.Tryz.prog (fun _=>true) x21 21=true:=by decide+kernel
noncomputable def x22:aJ:=cF Tryz.f22 [1,129,12,17,16,12]
theorem aLH:aD Go.Proofs.Tryz.prog (fun _=>true) x22 22=true:=by decide+kernel
noncomputable def x23:aJ:=cF Tryz.f23 [113,881,4976,13168,864,0x401370,864,0x80001370,864,0x10000000370,864,0x80000000000340,832,192]
theorem aLI:aD Go.Proofs.Tryz.prog (fun _=>true) x23 23=true:=by decide+kernel
noncomputable def x24:aJ:=cF Tryz.f24 [3,1027,16,35,35,16419,0x2000023,16,35,16]
theorem aLJ:aD Go.Proofs.Tryz.prog (fun _=>true) x24 24=true:=by decide+kernel
noncomputable def x26:aJ:=cF Tryz.f26 [28,156,8348,112,262172,112,0x40001c,112,28,28,0x200001c,0x80200001c,788,0x40000200001c,788,0x20000000000001c,788,788,0x200000000000000314,112,112]
theorem aLK:aD Go.Proofs.Tryz.prog (fun _=>true) x26 26=true:=by decide+kernel
noncomputable def x27:aJ:=cG Tryz.f27 md [51,3634,3634,7730,3762,4018,36786,0x800f32,3890,3890,0x20000f32,3890,0x200000000f32,3890,3634,3634] [] [(0,[(1,some 1001)])]
theorem aLL:aD Go.Proofs.Tryz.prog (fun _=>true) x27 27=true:=by decide+kernel
noncomputable def x28:aJ:=cF Tryz.f28 [0]
theorem aLM:aD Go.Proofs.Tryz.prog (fun _=>true) x28 28=true:=by decide+kernel
noncomputable def x30:aJ:=cF Tryz.f30 [92,856,3392,0x10000d40,192,192]
theorem aLN:aD Go.Proofs.Tryz.prog (fun _=>true) x30 30=true:=by decide+kernel
noncomputable def x32:aJ:=cF Tryz.f32 [2,10,0x8000002,4,18,18,18,0x40000000002,4,98,0x200000000000000000,4,4]
theorem aLO:aD Go.Proofs.Tryz.prog (fun _=>true) x32 32=true:=by decide+kernel
noncomputable def x33:aJ:=cF Tryz.f33 [28,92,8284,48,156,524444,48,796,0x2000011c,48,0x40000011c,48,48]
theorem aLP:aD Go.Proofs.Tryz.prog (fun _=>true) x33 33=true:=by decide+kernel
noncomputable def x35:aJ:=cF Tryz.f35 [3,387,387,899,419,65955,16,387,16]
theorem aLQ:aD Go.Proofs.Tryz.prog (fun _=>true) x35 35=true:=by decide+kernel
noncomputable def x36:aJ:=cF Tryz.f36 [3,1027,3,97,0x4000041,65,129,384,384,0x2000000180,384,16]
theorem aLR:aD Go.Proofs.Tryz.prog (fun _=>true) x36 36=true:=by decide+kernel
noncomputable def x37:aJ:=cF Tryz.f37 [92,344,3392,0x20000d40,192,192]
theorem aLS:aD Go.Proofs.Tryz.prog (fun _=>true) x37 37=true:=by decide+kernel
noncomputable def x38:aJ:=cF Tryz.f38 [22,212,32980,48,48]
theorem aLT:aD Go.Proofs.Tryz.prog (fun _=>true) x38 38=true:=by decide+kernel
noncomputable def x39:aJ:=cF Tryz.f39 [3,35,4131,16,99,99,524387,227,0x200000e3,99,99,99,33,16]
theorem aLU:aD Go.Proofs.Tryz.prog (fun _=>true) x39 39=true:=by decide+kernel
noncomputable def x40:aJ:=cF Tryz.f40 [1,4]
theorem aLV:aD Go.Proofs.Tryz.prog (fun _=>true) x40 40=true:=by decide+kernel
noncomputable def x49:aJ:=cF Tryz.f49 [14,46,1070,28,76,28]
theorem aLW:aD Go.Proofs.Tryz.prog (fun _=>true) x49 49=true:=by decide+kernel
noncomputable def x50:aJ:=cF Tryz.f50 [2,16,4]
theorem aLX:aD Go.Proofs.Tryz.prog (fun _=>true) x50 50=true:=by decide+kernel
noncomputable def x51:aJ:=cF Tryz.f51 [60,316,828,112,262460,112,0x800013c,112,0x100000003c,112,112,112]
theorem aLY:aD Go.Proofs.Tryz.prog (fun _=>true) x51 51=true:=by decide+kernel
noncomputable def x52:aJ:=cF Tryz.f52 [2,4]
theorem aLZ:aD Go.Proofs.Tryz.prog (fun _=>true) x52 52=true:=by decide+kernel
noncomputable def x54:aJ:=cF Tryz.f54 [12,16]
theorem aL0:aD Go.Proofs.Tryz.prog (fun _=>true) x54 54=true:=by decide+kernel
noncomputable def x55:aJ:=cF Tryz.f55 [12,16]
theorem aL1:aD Go.Proofs.Tryz.prog (fun _=>true) x55 55=true:=by decide+kernel
noncomputable def x56:aJ:=cF Tryz.f56 [12,16]
theorem aL2:aD Go.Proofs.Tryz.prog (fun _=>true) x56 56=true:=by decide+kernel
noncomputable def x57:aJ:=cF Tryz.f57 [12,16]
theorem aL3:aD Go.Proofs.Tryz.prog (fun _=>true) x57 57=true:=by decide+kernel
noncomputable def x58:aJ:=cF Tryz.f58 [0]
theorem aL4:aD Go.Proofs.Tryz.prog (fun _=>true) x58 58=true:=by decide+kernel
noncomputable def x59:aJ:=cF Tryz.f59 [28,284,48,16412,48,48]
theorem aL5:aD Go.Proofs.Tryz.prog (fun _=>true) x59 59=true:=by decide+kernel
noncomputable def x60:aJ:=cF Tryz.f60 [28,284,48,16412,48,48]
theorem aL6:aD Go.Proofs.Tryz.prog (fun _=>true) x60 60=true:=by decide+kernel
noncomputable def x61:aJ:=cF Tryz.f61 [28,284,48,16412,48,48]
theorem aL7:aD Go.Proofs.Tryz.prog (fun _=>true) x61 61=true:=by decide+kernel
noncomputable def x62:aJ:=cF Tryz.f62 [28,284,48,16412,48,48]
theorem aL8:aD Go.Proofs.Tryz.prog (fun _=>true) x62 62=true:=by decide+kernel
noncomputable def x63:aJ:=cF Tryz.f63 [2,34,4,0x100000,4,4]
theorem aL9:aD Go.Proofs.Tryz.prog (fun _=>true) x63 63=true:=by decide+kernel
noncomputable def x64:aJ:=cF Tryz.f64 [22,150,48,48]
theorem aMa:aD Go.Proofs.Tryz.prog (fun _=>true) x64 64=true:=by decide+kernel
noncomputable def x69:aJ:=cF Tryz.f69 [2,10,0x1800000000000000002,0x1800000000000000002,0x3800000000000000002,0x1800000000000000032,0x1001800000000000000002,4,0x1800000000000000002,66,0x8000000000000000000042,0x18000000000000000000042,66,0x208000000000000000000042,66,0x4008000000000000000000042,66,0x80000000000000000000000042,66,0x100000000000000000000000000000,4,4]
theorem aMb:aD Go.Proofs.Tryz.prog (fun _=>true) x69 69=true:=by decide+kernel
noncomputable def x70:aJ:=cF Tryz.f70 [2,0x100000,4,4]
theorem aMc:aD Go.Proofs.Tryz.prog (fun _=>true) x70 70=true:=by decide+kernel
noncomputable def x71:aJ:=cF Tryz.f71 [2,10,138,4,131072,4,4]
theorem aMd:aD Go.Proofs.Tryz.prog (fun _=>true) x71 71=true:=by decide+kernel
noncomputable def x72:aJ:=cG Tryz.f72 md [28,156,524444,112,0x100001c,112,284,0x80000001c,112,1052,1052,15388,0x200000003c1c,0x800000003c1c,112,1052,50196,112] [(0,[(10,2)])] []
theorem aMe:aD Go.Proofs.Tryz.prog (fun _=>true) x72 72=true:=by decide+kernel
noncomputable def x73:aJ:=cG Tryz.f73 md [28,156,0x40009c,112,0x800001c,112,284,0x400000001c,112,1052,1052,27676,0x4000000002c1c,25628,0x400000000000641c,112,1052,33820,164880,112] [(0,[(10,2)])] []
theorem aMf:aD Go.Proofs.Tryz.prog (fun _=>true) x73 73=true:=by decide+kernel
noncomputable def x74:aJ:=cG Tryz.f74 md [28,156,0x40009c,112,0x800001c,112,284,0x400000001c,112,1052,1052,27676,0x4000000002c1c,25628,0x80000000000641c,112,1052,33816,164880,112] [(0,[(10,2)])] []
theorem aMg:aD Go.Proofs.Tryz.prog (fun _=>true) x74 74=true:=by decide+kernel
noncomputable def x75:aJ:=cG Tryz.f75 md [28,156,0x40009c,112,0x800001c,112,284,0x400000001c,112,1052,1052,27676,0x4000000002c1c,25628,0x80000000000641c,112,1052,33816,164880,112] [(0,[(10,2)])] []
theorem aMh:aD Go.Proofs.Tryz.prog (fun _=>true) x75 75=true:=by decide+kernel
noncomputable def x76:aJ:=cF Tryz.f76 [2,2050,4,57346,57346,122882,57362,57378,0x40e022,4,57346,0x1c000002,0x1c000002,0x3c000002,0x1c0000c2,0x40001c000002,4,0x1c000002,4]
theorem aMi:aD Go.Proofs.Tryz.prog (fun _=>true) x76 76=true:=by decide+kernel
noncomputable def x79:aJ:=cG Tryz.f79 md [92,320,1344,3392,0xe000d40,0xe000d40,0x1e000d40,0xe003d40,0xe00ed40,0x80000e00ed40,0xe000d40,0xe000d40,192] [(0,[(11,2)])] []
theorem aMj:aD Go.Proofs.Tryz.prog (fun _=>true) x79 79=true:=by decide+kernel
noncomputable def x80:aJ:=cF Tryz.f80 [92,348,0x80015c,192,604,0x2000025c,192,0x70000005c,0x70000005c,0xf0000005c,0x70000085c,0x400000070000005c,192,0x70000005c,0xe000000000000005c,0xe000000000000005c,0x1e000000000000005c,0xe000000000000305c,0x100e000000000000005c,192,0xe000000000000005c,0x38000000000000000005c,0x38000000000000000005c,0x78000000000000000005c,0x38000000000000000805c,0x38000000000000002805c,0x3800000000000000a005c,0x10000038000000000000000005c,192,0x38000000000000000005c,192]
theorem aMk:aD Go.Proofs.Tryz.prog (fun _=>true) x80 80=true:=by decide+kernel
noncomputable def x81:aJ:=cF Tryz.f81 [2,0x7000002,0x7000002,0xf000002,0x7000012,0x87000002,4,0x7000002,0x800000000002,4,34,0x70000000000022,0x70000000000022,0xf0000000000022,0x700000000000a2,0x700000000007a2,0x4000700000000003a2,4,0x10000700000000001a2,0x10000000700000000001a2,4,0x700000000009a2,0x40000000000000000070000000000022,4,0x70000000000022,0x70000000000022,0x1000000000000000000000000000000000,4,4]
theorem aMl:aD Go.Proofs.Tryz.prog (fun _=>true) x81 81=true:=by decide+kernel
noncomputable def x82:aJ:=cF Tryz.f82 [2,10,0x40000002,4,0x400000002,4,0x7000000002,0x7000000002,0xf000000002,0x7000000032,0x70000000e2,0x400000007000000002,4,0x7000000002,4]
theorem aMm:aD Go.Proofs.Tryz.prog (fun _=>true) x82 82=true:=by decide+kernel
noncomputable def x83:aJ:=cF Tryz.f83 [1,4]
theorem aMn:aD Go.Proofs.Tryz.prog (fun _=>true) x83 83=true:=by decide+kernel
noncomputable def x85:aJ:=cF Tryz.f85 [7,16391,64,229382,229382,491526,229766,230150,0x40038006,64,229382,64]
theorem aMo:aD Go.Proofs.Tryz.prog (fun _=>true) x85 85=true:=by decide+kernel
noncomputable def x86:aJ:=cF Tryz.f86 [9,16]
theorem aMp:aD Go.Proofs.Tryz.prog (fun _=>true) x86 86=true:=by decide+kernel
noncomputable def x87:aJ:=cF Tryz.f87 [3,1027,16,12291,12291,28675,12323,0x1003003,16,12291,16]
theorem aMq:aD Go.Proofs.Tryz.prog (fun _=>true) x87 87=true:=by decide+kernel
noncomputable def x88:aJ:=cF Tryz.f88 [12,44,16]
theorem aMr:aD Go.Proofs.Tryz.prog (fun _=>true) x88 88=true:=by decide+kernel
noncomputable def x89:aJ:=cF Tryz.f89 [2,10,0x800000,4,4]
theorem aMs:aD Go.Proofs.Tryz.prog (fun _=>true) x89 89=true:=by decide+kernel
noncomputable def x90:aJ:=cF Tryz.f90 [6,48]
theorem aMt:aD Go.Proofs.Tryz.prog (fun _=>true) x90 90=true:=by decide+kernel
noncomputable def x92:aJ:=cF Tryz.f92 [3,192,48,768,48]
theorem aMu:aD Go.Proofs.Tryz.prog (fun _=>true) x92 92=true:=by decide+kernel
noncomputable def x93:aJ:=cF Tryz.f93 [92,348,16732,131420,348,0x400015c,348,0x8000015c,348,0x100000015c,192,600,1624,1624,0x8000000000658,1624,1624,192]
theorem aMv:aD Go.Proofs.Tryz.prog (fun _=>true) x93 93=true:=by decide+kernel
noncomputable def x94:aJ:=cG Tryz.f94 md [2,10,26,458776,458776,983064,458872,0x1c0070058,0x1c0070058,0x3c0070058,0x1c0070158,0x401c0070158,0x1c0070058,0x1c0070058,458776,4] [(0,[(4,2)]),(1,[(4,2)])] []
theorem aMw:aD Go.Proofs.Tryz.prog (fun _=>true) x94 94=true:=by decide+kernel
noncomputable def x95:aJ:=cF Tryz.f95 [6,70,4166,48,384,0x200080,48,48]
theorem aMx:aD Go.Proofs.Tryz.prog (fun _=>true) x95 95=true:=by decide+kernel
noncomputable def x96:aJ:=cF Tryz.f96 [7,7,65543,64,135,129,1,64]
theorem aMy:aD Go.Proofs.Tryz.prog (fun _=>true) x96 96=true:=by decide+kernel
noncomputable def x97:aJ:=cF Tryz.f97 [3,387,387,899,419,65955,16,387,16]
theorem aMz:aD Go.Proofs.Tryz.prog (fun _=>true) x97 97=true:=by decide+kernel
noncomputable def aMA:aJ:=cF Tryz.f101 [6,4]
theorem aBk:aD Go.Proofs.Tryz.prog (fun _=>true) aMA 101=true:=by decide+kernel
noncomputable def aMB:aJ:=cF Tryz.f104 [6,22,54,4,1046,4,32774,4,4]
theorem aBl:aD Go.Proofs.Tryz.prog (fun _=>true) aMB 104=true:=by decide+kernel
noncomputable def aMC:aJ:=cF Tryz.f105 [28,92,1116,48,16412,0x80401c,84,0x20000401c,84,0x8000000001c,84,84,48]
theorem aBm:aD Go.Proofs.Tryz.prog (fun _=>true) aMC 105=true:=by decide+kernel
noncomputable def aMD:aJ:=cF Tryz.f106 [22,86,1110,48,16406,0x804016,84,0x200004016,84,0x80000000016,84,84,48]
theorem aBn:aD Go.Proofs.Tryz.prog (fun _=>true) aMD 106=true:=by decide+kernel
noncomputable def aME:aJ:=cF Tryz.f107 [28,92,1116,48,16412,0x80401c,84,0x20000401c,84,0x8000000001c,84,84,48]
theorem aBo:aD Go.Proofs.Tryz.prog (fun _=>true) aME 107=true:=by decide+kernel
noncomputable def aMF:aJ:=cF Tryz.f112 [12,0x8000000000c,16,44,44,0x100000000002c,0x200000000000002c,16,44,16]
theorem aBp:aD Go.Proofs.Tryz.prog (fun _=>true) aMF 112=true:=by decide+kernel
noncomputable def aMG:aJ:=cF Tryz.f113 [12,16]
theorem aBq:aD Go.Proofs.Tryz.prog (fun _=>true) aMG 113=true:=by decide+kernel
noncomputable def aMH:aJ:=cF Tryz.f114 [12,524300,16,44,44,0x100002c,0x200000002c,16,44,16]
theorem aBr:aD Go.Proofs.Tryz.prog (fun _=>true) aMH 114=true:=by decide+kernel
noncomputable def aMI:aJ:=cF Tryz.f115 [2,258,4,10,10,8202,0x40000a,4,10,18,18,0x8000012,0x80000000012,4,18,4]
theorem aBs:aD Go.Proofs.Tryz.prog (fun _=>true) aMI 115=true:=by decide+kernel
noncomputable def aMJ:aJ:=cF Tryz.f116 [2,0x100000,4,4]
theorem aBt:aD Go.Proofs.Tryz.prog (fun _=>true) aMJ 116=true:=by decide+kernel
noncomputable def aMK:aJ:=cG Tryz.f117 md [28,60,124,124,8316,124,124,176,16] [(0,[(5,1)])] []
theorem aBu:aD Go.Proofs.Tryz.prog (fun _=>true) aMK 117=true:=by decide+kernel
noncomputable def aML:aJ:=cF Tryz.f118 [92,344,1856,0x2000740,192,192]
theorem aBv:aD Go.Proofs.Tryz.prog (fun _=>true) aML 118=true:=by decide+kernel
noncomputable def aMM:aJ:=cF Tryz.f119 [28,16]
theorem aBw:aD Go.Proofs.Tryz.prog (fun _=>true) aMM 119=true:=by decide+kernel
noncomputable def aMN:aJ:=cG Tryz.f120 md [2,10,10,1034,10,26,58,58,32826,0x40003a,58,58,58,4] [(1,[(4,1)])] []
theorem aBx:aD Go.Proofs.Tryz.prog (fun _=>true) aMN 120=true:=by decide+kernel
noncomputable def aMO:aJ:=cF Tryz.f121 [28,92,464,0x4001d0,48,48]
theorem aBy:aD Go.Proofs.Tryz.prog (fun _=>true) aMO 121=true:=by decide+kernel
noncomputable def aMP:aJ:=cF Tryz.f122 [28,92,464,0x8001d0,48,48]
theorem aBz:aD Go.Proofs.Tryz.prog (fun _=>true) aMP 122=true:=by decide+kernel
noncomputable def aMQ:aJ:=cF Tryz.f124 [6,38,38,1062,0x100026,16,38,16]
theorem aBA:aD Go.Proofs.Tryz.prog (fun _=>true) aMQ 124=true:=by decide+kernel
noncomputable def aMR:aJ:=cG Tryz.f126 md [1,9,25,25,281,25,25,4] [(0,[(3,2)])] []
theorem aBB:aD Go.Proofs.Tryz.prog (fun _=>true) aMR 126=true:=by decide+kernel
noncomputable def aMS:aJ:=cG Tryz.f132 md [2,10,26,26,2074,122,0x2000007a,0x100000007a,26,26,26,4] [(0,[(3,2)])] []
theorem aBC:aD Go.Proofs.Tryz.prog (fun _=>true) aMS 132=true:=by decide+kernel
noncomputable def aMT:aJ:=cF Tryz.f133 [28,16]
theorem aBD:aD Go.Proofs.Tryz.prog (fun _=>true) aMT 133=true:=by decide+kernel
noncomputable def aMU:aJ:=cG Tryz.f134 md [2,10,26,26,1050,58,58,131130,0x200000003a,58,58,26,4] [(0,[(3,2)]),(1,[(3,2)])] []
theorem aBE:aD Go.Proofs.Tryz.prog (fun _=>true) aMU 134=true:=by decide+kernel
noncomputable def aMV:aJ:=cF Tryz.f135 [12,36,100,228,228,524516,228,228,16]
theorem aBF:aD Go.Proofs.Tryz.prog (fun _=>true) aMV 135=true:=by decide+kernel
noncomputable def aMW:aJ:=cG Tryz.f136 md [6,38,102,102,1126,131174,102,102,16] [(0,[(5,2)])] []
theorem aBG:aD Go.Proofs.Tryz.prog (fun _=>true) aMW 136=true:=by decide+kernel
noncomputable def aMX:aJ:=cF Tryz.f137 [2,26,4]
theorem aBH:aD Go.Proofs.Tryz.prog (fun _=>true) aMX 137=true:=by decide+kernel
noncomputable def aMY:aJ:=cF Tryz.f138 [2,0x400002,4,0x1c000002,0x1c000002,0x3c000002,0x1c000012,0x201c000002,4,0x1c000002,34,0x2000000000022,4,0xe0000000000022,0xe0000000000022,0x1e0000000000022,0xe00000000000a2,0x800000e0000000000022,4,0xe0000000000022,4]
theorem aBI:aD Go.Proofs.Tryz.prog (fun _=>true) aMY 138=true:=by decide+kernel
noncomputable def aMZ:aJ:=cF Tryz.f139 [2,258,4,26,0x10000000000,4,4]
theorem aBJ:aD Go.Proofs.Tryz.prog (fun _=>true) aMZ 139=true:=by decide+kernel
noncomputable def aM0:aJ:=cF Tryz.f140 [2,1026,4,26,0x800000012,4,0x38000000010,0x38000000010,0x78000000010,0x38000000050,0x2038000000010,4,0x38000000010,4]
theorem aBK:aD Go.Proofs.Tryz.prog (fun _=>true) aM0 140=true:=by decide+kernel
noncomputable def aM1:aJ:=cF Tryz.f141 [3,3,67,3,16]
theorem aBL:aD Go.Proofs.Tryz.prog (fun _=>true) aM1 141=true:=by decide+kernel
noncomputable def aM2:aJ:=cF Tryz.f142 [1,17,4,4]
theorem aBM:aD Go.Proofs.Tryz.prog (fun _=>true) aM2 142=true:=by decide+kernel
noncomputable def aM3:aJ:=cF Tryz.f143 [12,76,4172,48,0x10000c,48,132,0x8000000080,128,48]
theorem aBN:aD Go.Proofs.Tryz.prog (fun _=>true) aM3 143=true:=by decide+kernel
noncomputable def aM4:aJ:=cF Tryz.f144 [60,1716,0x10006b4,112,2736,15024,2736,3760,112]
theorem aBO:aD Go.Proofs.Tryz.prog (fun _=>true) aM4 144=true:=by decide+kernel
noncomputable def aM5:aJ:=cF Tryz.f145 [28,220,524444,156,0x20009c,48,280,272,48]
theorem aBP:aD Go.Proofs.Tryz.prog (fun _=>true) aM5 145=true:=by decide+kernel
noncomputable def aM6:aJ:=cF Tryz.f146 [124,884,0x1000274,628,0x4000274,240,1140,7792,0x200000001e70,240,7280,240]
theorem aBQ:aD Go.Proofs.Tryz.prog (fun _=>true) aM6 146=true:=by decide+kernel
noncomputable def aM7:aJ:=cF Tryz.f147 [28,220,848,0x2000350,48,48]
theorem aBR:aD Go.Proofs.Tryz.prog (fun _=>true) aM7 147=true:=by decide+kernel
noncomputable def aM8:aJ:=cG Tryz.f148 md [28,80,336,0x30000150,0x30000150,0x70000150,0x30000350,0x30000150,0x30000150,0xe000000150,0xe000000150,0x1e000000150,0xe000000d50,0x300e000000550,0x300e000000550,0x700e000000550,0x300e000002550,0x2300e000002550,0x300e000000550,0x300e000000550,0xe000000150,16720,0xe000000000004150,0xe000000000004150,0x1e000000000004150,0xe00000000001c150,0x100e00000000001c150,0xe000000000004150,0xe000000000004150,48] [(3,[(14,2)])] []
theorem aBS:aD Go.Proofs.Tryz.prog (fun _=>true) aM8 148=true:=by decide+kernel
noncomputable def aM9:aJ:=cF Tryz.f149 [28,220,848,0x2000350,48,48]
theorem aBT:aD Go.Proofs.Tryz.prog (fun _=>true) aM9 149=true:=by decide+kernel
noncomputable def aNa:aJ:=aAN Go.Proofs.Tryz.prog Tryz.f150 ⟨md,[12,76,68,196,452,0x1c01c0,0x1c01c0,0x3c01c0,0x1c05c0,0x1c05c0,0x8001c05c0,0x1c01c0,0x1c01c0,48],[(0,[(7,1),(8,2)])],[],true⟩
theorem aBU:aD Go.Proofs.Tryz.prog (fun _=>true) aNa 150=true:=by decide+kernel
noncomputable def aBV:aJ:=cF Tryz.f152 [3,259,8,8]
theorem aBW:aD Go.Proofs.Tryz.prog (fun _=>true) aBV 152=true:=by decide+kernel
noncomputable def aNb:aJ:=cF Tryz.f153 [9,16]
theorem aBX:aD Go.Proofs.Tryz.prog (fun _=>true) aNb 153=true:=by decide+kernel
noncomputable def aNc:aJ:=cF Tryz.f154 [22,212,32980,48,48]
theorem aBY:aD Go.Proofs.Tryz.prog (fun _=>true) aNc 154=true:=by decide+kernel
noncomputable def aNd:aJ:=cF Tryz.f155 [92,229468,229468,491612,229980,0x203825c,229468,229468,92,0x1000000005c,1100,0x100000000044c,192,0x38000000000048,0x38000000000048,0x78000000000048,0x38000000001048,0x2038000000001048,0x38000000000448,0x400038000000000448,192,0x38000000000048,192]
theorem aBZ:aD Go.Proofs.Tryz.prog (fun _=>true) aNd 155=true:=by decide+kernel
noncomputable def aNe:aJ:=cF Tryz.f156 [6,6,6,6,14,14,6,4]
theorem aB0:aD Go.Proofs.Tryz.prog (fun _=>true) aNe 156=true:=by decide+kernel
noncomputable def aNf:aJ:=cF Tryz.f157 [2,0x100002,4,26,0x380001a,0x380001a,0x780001a,0x380005a,0x800000380004a,4,0x380001a,0x380001a,4]
theorem aB1:aD Go.Proofs.Tryz.prog (fun _=>true) aNf 157=true:=by decide+kernel
noncomputable def aNg:aJ:=cF Tryz.f158 [2,0x1000000002,4,0x1c000000002,0x1c000000002,0x3c000000002,0x1c00000001a,0x801c00000001a,0x2001c000000002,4,0x8000000001c000000002,4,0x1c000000002,34,0x3800000000000000000022,0x3800000000000000000022,0x7800000000000000000022,0x38000000000000000000e2,0x20000038000000000000000000e2,4,0x38000000000000000000e2,0x40000000003800000000000000000022,4,0x3800000000000000000022,4]
theorem aB2:aD Go.Proofs.Tryz.prog (fun _=>true) aNg 158=true:=by decide+kernel
noncomputable def aNh:aJ:=cF Tryz.f159 [120,448]
theorem aB3:aD Go.Proofs.Tryz.prog (fun _=>true) aNh 159=true:=by decide+kernel
noncomputable def ZO:aJ:=aAN Go.Proofs.Tryz.prog Tryz.f160 ⟨md,[1,9,4],[],[],true⟩
theorem aB4:aD Go.Proofs.Tryz.prog (fun _=>true) ZO 160=true:=by decide+kernel
noncomputable def WW:aJ:=cF Tryz.f161 [9,16]
theorem aB5:aD Go.Proofs.Tryz.prog (fun _=>true) WW 161=true:=by decide+kernel
noncomputable def aNi:aJ:=cF Tryz.f162 [1,4]
theorem aB6:aD Go.Proofs.Tryz.prog (fun _=>true) aNi 162=true:=by decide+kernel
noncomputable def aNj:aJ:=cF Tryz.f163 [6,38,4134,16,16]
theorem aB7:aD Go.Proofs.Tryz.prog (fun _=>true) aNj 163=true:=by decide+kernel
noncomputable def aB8:aJ:=cF Tryz.f166 [6,8]
theorem aB9:aD Go.Proofs.Tryz.prog (fun _=>true) aB8 166=true:=by decide+kernel
noncomputable def aNk:aJ:=cF Tryz.f167 [3,16]
theorem aCa:aD Go.Proofs.Tryz.prog (fun _=>true) aNk 167=true:=by decide+kernel
noncomputable def aNl:aJ:=cF Tryz.f168 [1,4]
theorem aCb:aD Go.Proofs.Tryz.prog (fun _=>true) aNl 168=true:=by decide+kernel
noncomputable def aNm:aJ:=cF Tryz.f169 [7,263,1799,1799,132871,3847,0x80000f07,1799,1799,192]
theorem aCc:aD Go.Proofs.Tryz.prog (fun _=>true) aNm 169=true:=by decide+kernel
noncomputable def aNn:aJ:=cF Tryz.f170 [6,16]
theorem aCd:aD Go.Proofs.Tryz.prog (fun _=>true) aNn 170=true:=by decide+kernel
noncomputable def aNo:aJ:=cF Tryz.f171 [3,35,99,2115,4096,16,16,8195,16,65539,16,524288,16,16]
theorem aCe:aD Go.Proofs.Tryz.prog (fun _=>true) aNo 171=true:=by decide+kernel
noncomputable def aNp:aJ:=cF Tryz.f174 [3,64,48]
theorem aCf:aD Go.Proofs.Tryz.prog (fun _=>true) aNp 174=true:=by decide+kernel
noncomputable def aNq:aJ:=cF Tryz.f175 [3,67,195,451,963,1987,2755,6851,12995,12931,19,48]
theorem aCg:aD Go.Proofs.Tryz.prog (fun _=>true) aNq 175=true:=by decide+kernel
noncomputable def aNr:aJ:=cF Tryz.f176 [12,40,552,16,16]
theorem aCh:aD Go.Proofs.Tryz.prog (fun _=>true) aNr 176=true:=by decide+kernel
noncomputable def aNs:aJ:=cF Tryz.f177 [6,16]
theorem aCi:aD Go.Proofs.Tryz.prog (fun _=>true) aNs 177=true:=by decide+kernel
noncomputable def aNt:aJ:=cF Tryz.f178 [60,262204,256,572,2620,8204,0x200000000000c,256,256]
theorem aCj:aD Go.Proofs.Tryz.prog (fun _=>true) aNt 178=true:=by decide+kernel
noncomputable def aNu:aJ:=cF Tryz.f182 [6,4]
theorem aCk:aD Go.Proofs.Tryz.prog (fun _=>true) aNu 182=true:=by decide+kernel
noncomputable def aNv:aJ:=cF Tryz.f183 [6,4]
theorem aCl:aD Go.Proofs.Tryz.prog (fun _=>true) aNv 183=true:=by decide+kernel
noncomputable def aNw:aJ:=cF Tryz.f184 [6,4]
theorem aCm:aD Go.Proofs.Tryz.prog (fun _=>true) aNw 184=true:=by decide+kernel
noncomputable def aNx:aJ:=cF Tryz.f185 [28,92,32860,48,412,0x800019c,48,660,1684,660,48]
theorem aCn:aD Go.Proofs.Tryz.prog (fun _=>true) aNx 185=true:=by decide+kernel
noncomputable def aNy:aJ:=cF Tryz.f186 [28,48]
theorem aCo:aD Go.Proofs.Tryz.prog (fun _=>true) aNy 186=true:=by decide+kernel
noncomputable def aNz:aJ:=cF Tryz.f187 [28,48]
theorem aCp:aD Go.Proofs.Tryz.prog (fun _=>true) aNz 187=true:=by decide+kernel
end Go.Proofs.YtclphlgnjkajbaaGreat
