/- The seat's functions as the logical machine runs them (reckoned), and the look at each of them (1). Printed by a program. -/
import Derived.Test.YtogihpogmfjoiaaGreatNVm2
import Derived.Test.YtogihpogmfjoiaaGreatProg
set_option maxRecDepth 100000
namespace Go.Proofs.YtogihpogmfjoiaaGreat
open Go.Vm
abbrev md:FuncId->CM:=aK6 [11,37,38,44,83,84,85,137,157,189] [74,89,95,141,142,158,195,196,197,285,305] [42,77,243,259,261,262,277,286,302]
abbrev mdX (l:List FuncId) (f:FuncId):CM:=bif has l f then .pur else md f
noncomputable abbrev cF (fn:Go.Func) (ks:List Nat):aF:=aDT Go.Proofs.Tryz.prog fn ⟨md,ks,[],[],false⟩
noncomputable abbrev cG (fn:Go.Func) (m:FuncId->CM) (ks:List Nat) (a:List (Nat×List (Nat×Nat))) (b:List (Nat×List (Nat×Option Nat))):aF:=aDT Go.Proofs.Tryz.prog fn ⟨m,ks,a,b,false⟩
noncomputable def x7:aF:=cG Tryz.f7 md [0,2,10,42,170,682,2730,10922,43690,240298,961194,0x3eaaaa,0xbeaaaa,0x1beaaaa,0x1beaaaa,0x4beaaaa,0xcbeaaaa,0x1cbeaaaa,0x1cbeaaaa,0x1000000000000000000000001cbeaaaa,0x1cbeaaaa,0x1cbeaaaa,0x64beaaaa,0x164beaaaa,0x744beaaaa,0x1d44beaaaa,0x7544beaaaa,0x1f544beaaa8,0x77544beaaa8,0x1f7544beaaa8,0x5f7544beaaa8,0x15f7544beaaa8,0x2000000000000000000000000000000000000000000007544beaaa8,1,1] [] [(0,[(27,some 1003)])]
theorem aJn:aD Go.Proofs.Tryz.prog (fun _=>true) x7 7=true:=by decide+kernel
noncomputable def x11:aF:=cF Tryz.f11 [6,4]
theorem aEa:aD Go.Proofs.Tryz.prog (fun _=>true) x11 11=true:=by decide+kernel
noncomputable def x12:aF:=cF Tryz.f12 [22,86,16470,48,406,0x4000196,48,662,660,1684,0x2000000000694,1684,660,48]
theorem aEb:aD Go.Proofs.Tryz.prog (fun _=>true) x12 12=true:=by decide+kernel
noncomputable def x14:aF:=cF Tryz.f14 [6,70,2118,48,130,0x800080,48,48]
theorem aEc:aD Go.Proofs.Tryz.prog (fun _=>true) x14 14=true:=by decide+kernel
noncomputable def x16:aF:=cF Tryz.f16 [12,16]
theorem aEd:aD Go.Proofs.Tryz.prog (fun _=>true) x16 16=true:=by decide+kernel
noncomputable def x17:aF:=cF Tryz.f17 [28,92,16476,48,412,0x400019c,48,668,1692,0x100000069c,1692,1692,660,48]
theorem aEe:aD Go.Proofs.Tryz.prog (fun _=>true) x17 17=true:=by decide+kernel
noncomputable def x19:aF:=cF Tryz.f19 [28,92,4188,48,404,0x1000194,48,48]
theorem aEf:aD Go.Proofs.Tryz.prog (fun _=>true) x19 19=true:=by decide+kernel
noncomputable def x21:aF:=cF Tryz.f21 [0,6,30,1]
theorem aEg:aD Go.Proofs.Tryz.prog (fun _=>true) x21 21=true:=by decide+kernel
noncomputable def x24:aF:=cF Tryz.f24 [12,4108,16,44,44,131116,0x4000002c,16,44,16]
theorem aEh:aD Go.Proofs.Tryz.prog (fun _=>true) x24 24=true:=by decide+kernel
noncomputable def x25:aF:=cF Tryz.f25 [1,3,5,1]
theorem aEi:aD Go.Proofs.Tryz.prog (fun _=>true) x25 25=true:=by decide+kernel
noncomputable def x26:aF:=cF Tryz.f26 [28,284,48,16412,48,48]
theorem aEj:aD Go.Proofs.Tryz.prog (fun _=>true) x26 26=true:=by decide+kernel
noncomputable def x27:aF:=cF Tryz.f27 [5,4]
theorem aEk:aD Go.Proofs.Tryz.prog (fun _=>true) x27 27=true:=by decide+kernel
noncomputable def x28:aF:=cF Tryz.f28 [2,18,274,12,12]
theorem aEl:aD Go.Proofs.Tryz.prog (fun _=>true) x28 28=true:=by decide+kernel
noncomputable def x29:aF:=cF Tryz.f29 [3,1027,16,35,35,16419,0x2000023,16,35,16]
theorem aEm:aD Go.Proofs.Tryz.prog (fun _=>true) x29 29=true:=by decide+kernel
noncomputable def x31:aF:=cF Tryz.f31 [28,92,8284,48,156,524444,48,796,0x2000011c,48,0x40000011c,48,48]
theorem aEn:aD Go.Proofs.Tryz.prog (fun _=>true) x31 31=true:=by decide+kernel
noncomputable def x32:aF:=cF Tryz.f32 [22,212,32980,48,48]
theorem aEo:aD Go.Proofs.Tryz.prog (fun _=>true) x32 32=true:=by decide+kernel
noncomputable def x33:aF:=cF Tryz.f33 [28,92,16476,48,156,0x10009c,48,796,0x8000031c,48,1304,1040,48]
theorem aEp:aD Go.Proofs.Tryz.prog (fun _=>true) x33 33=true:=by decide+kernel
noncomputable def x37:aF:=cF Tryz.f37 [6,4]
theorem aEq:aD Go.Proofs.Tryz.prog (fun _=>true) x37 37=true:=by decide+kernel
noncomputable def x38:aF:=cF Tryz.f38 [6,4]
theorem aEr:aD Go.Proofs.Tryz.prog (fun _=>true) x38 38=true:=by decide+kernel
noncomputable def x39:aF:=cF Tryz.f39 [2,10,0x8000002,4,18,18,18,0x40000000002,4,98,0x200000000000000000,4,4]
theorem aEs:aD Go.Proofs.Tryz.prog (fun _=>true) x39 39=true:=by decide+kernel
noncomputable def x41:aF:=cF Tryz.f41 [3,387,387,899,419,65955,16,387,16]
theorem aEt:aD Go.Proofs.Tryz.prog (fun _=>true) x41 41=true:=by decide+kernel
noncomputable def x42:aF:=cF Tryz.f42 [3,35,4131,16,99,99,524387,227,0x200000e3,99,99,99,33,16]
theorem aEu:aD Go.Proofs.Tryz.prog (fun _=>true) x42 42=true:=by decide+kernel
noncomputable def x43:aF:=cF Tryz.f43 [1,4]
theorem aEv:aD Go.Proofs.Tryz.prog (fun _=>true) x43 43=true:=by decide+kernel
noncomputable def x44:aF:=cF Tryz.f44 [3,1027,3,97,0x4000041,65,129,384,384,0x2000000180,384,16]
theorem aEw:aD Go.Proofs.Tryz.prog (fun _=>true) x44 44=true:=by decide+kernel
noncomputable def x45:aF:=cF Tryz.f45 [92,344,3392,0x20000d40,192,192]
theorem aEx:aD Go.Proofs.Tryz.prog (fun _=>true) x45 45=true:=by decide+kernel
noncomputable def x47:aF:=cF Tryz.f47 [92,344,1856,0x2000740,192,192]
theorem aEy:aD Go.Proofs.Tryz.prog (fun _=>true) x47 47=true:=by decide+kernel
noncomputable def x49:aF:=cF Tryz.f49 [12,0x8000000000c,16,44,44,0x100000000002c,0x200000000000002c,16,44,16]
theorem aEz:aD Go.Proofs.Tryz.prog (fun _=>true) x49 49=true:=by decide+kernel
noncomputable def x50:aF:=cF Tryz.f50 [12,16]
theorem aEA:aD Go.Proofs.Tryz.prog (fun _=>true) x50 50=true:=by decide+kernel
noncomputable def x62:aF:=cG Tryz.f62 md [2,10,26,26,2074,122,0x2000007a,0x100000007a,26,26,26,4] [(0,[(3,2)])] []
theorem aEB:aD Go.Proofs.Tryz.prog (fun _=>true) x62 62=true:=by decide+kernel
noncomputable def x63:aF:=cF Tryz.f63 [2,258,4,10,10,8202,0x40000a,4,10,18,18,0x8000012,0x80000000012,4,18,4]
theorem aEC:aD Go.Proofs.Tryz.prog (fun _=>true) x63 63=true:=by decide+kernel
noncomputable def x64:aF:=cF Tryz.f64 [2,0x100000,4,4]
theorem aED:aD Go.Proofs.Tryz.prog (fun _=>true) x64 64=true:=by decide+kernel
noncomputable def x65:aF:=cF Tryz.f65 [28,16]
theorem aEE:aD Go.Proofs.Tryz.prog (fun _=>true) x65 65=true:=by decide+kernel
noncomputable def x66:aF:=cG Tryz.f66 md [2,10,10,1034,10,26,58,58,32826,0x40003a,58,58,58,4] [(1,[(4,1)])] []
theorem aEF:aD Go.Proofs.Tryz.prog (fun _=>true) x66 66=true:=by decide+kernel
noncomputable def x67:aF:=cF Tryz.f67 [2,18,530,12,32,16416,12,12]
theorem aEG:aD Go.Proofs.Tryz.prog (fun _=>true) x67 67=true:=by decide+kernel
noncomputable def x71:aF:=cF Tryz.f71 [2,2050,4,57346,57346,122882,57362,57378,0x40e022,4,57346,0x1c000002,0x1c000002,0x3c000002,0x1c0000c2,0x40001c000002,4,0x1c000002,4]
theorem aEH:aD Go.Proofs.Tryz.prog (fun _=>true) x71 71=true:=by decide+kernel
noncomputable def x72:aF:=cF Tryz.f72 [2,10,0x800000,4,4]
theorem aEI:aD Go.Proofs.Tryz.prog (fun _=>true) x72 72=true:=by decide+kernel
noncomputable def x73:aF:=cF Tryz.f73 [6,48]
theorem aEJ:aD Go.Proofs.Tryz.prog (fun _=>true) x73 73=true:=by decide+kernel
noncomputable def x76:aF:=cF Tryz.f76 [6,70,4166,48,384,0x200080,48,48]
theorem aEK:aD Go.Proofs.Tryz.prog (fun _=>true) x76 76=true:=by decide+kernel
noncomputable def x77:aF:=cF Tryz.f77 [7,7,65543,64,135,129,1,64]
theorem aEL:aD Go.Proofs.Tryz.prog (fun _=>true) x77 77=true:=by decide+kernel
noncomputable def x79:aF:=cF Tryz.f79 [12,96,0x200060,0x4000000,16,16,0x20000060,16,16]
theorem aEM:aD Go.Proofs.Tryz.prog (fun _=>true) x79 79=true:=by decide+kernel
noncomputable def x83:aF:=cF Tryz.f83 [6,4]
theorem aEN:aD Go.Proofs.Tryz.prog (fun _=>true) x83 83=true:=by decide+kernel
noncomputable def x84:aF:=cF Tryz.f84 [6,4]
theorem aEO:aD Go.Proofs.Tryz.prog (fun _=>true) x84 84=true:=by decide+kernel
noncomputable def x85:aF:=cF Tryz.f85 [6,4]
theorem aEP:aD Go.Proofs.Tryz.prog (fun _=>true) x85 85=true:=by decide+kernel
noncomputable def x86:aF:=cF Tryz.f86 [2,0x7000002,0x7000002,0xf000002,0x7000012,0x87000002,4,0x7000002,0x800000000002,4,34,0x70000000000022,0x70000000000022,0xf0000000000022,0x700000000000a2,0x700000000007a2,0x4000700000000003a2,4,0x10000700000000001a2,0x10000000700000000001a2,4,0x700000000009a2,0x40000000000000000070000000000022,4,0x70000000000022,0x70000000000022,0x1000000000000000000000000000000000,4,4]
theorem aEQ:aD Go.Proofs.Tryz.prog (fun _=>true) x86 86=true:=by decide+kernel
noncomputable def x87:aF:=cF Tryz.f87 [2,10,0x40000002,4,0x400000002,4,0x7000000002,0x7000000002,0xf000000002,0x7000000032,0x70000000e2,0x400000007000000002,4,0x7000000002,4]
theorem aER:aD Go.Proofs.Tryz.prog (fun _=>true) x87 87=true:=by decide+kernel
noncomputable def x88:aF:=cF Tryz.f88 [1,4]
theorem aES:aD Go.Proofs.Tryz.prog (fun _=>true) x88 88=true:=by decide+kernel
noncomputable def x90:aF:=cF Tryz.f90 [7,16391,64,229382,229382,491526,229766,230150,0x40038006,64,229382,64]
theorem aET:aD Go.Proofs.Tryz.prog (fun _=>true) x90 90=true:=by decide+kernel
noncomputable def x91:aF:=cF Tryz.f91 [9,16]
theorem aEU:aD Go.Proofs.Tryz.prog (fun _=>true) x91 91=true:=by decide+kernel
noncomputable def x92:aF:=cG Tryz.f92 md [92,320,1344,3392,0xe000d40,0xe000d40,0x1e000d40,0xe003d40,0xe00ed40,0x80000e00ed40,0xe000d40,0xe000d40,192] [(0,[(11,2)])] []
theorem aEV:aD Go.Proofs.Tryz.prog (fun _=>true) x92 92=true:=by decide+kernel
noncomputable def x93:aF:=cF Tryz.f93 [3,1027,16,12291,12291,28675,12323,0x1003003,16,12291,16]
theorem aEW:aD Go.Proofs.Tryz.prog (fun _=>true) x93 93=true:=by decide+kernel
noncomputable def x94:aF:=cF Tryz.f94 [12,44,16]
theorem aEX:aD Go.Proofs.Tryz.prog (fun _=>true) x94 94=true:=by decide+kernel
noncomputable def UT:aF:=cF Tryz.f95 [3,387,387,899,419,65955,16,387,16]
theorem aEY:aD Go.Proofs.Tryz.prog (fun _=>true) UT 95=true:=by decide+kernel
noncomputable def x96:aF:=cF Tryz.f96 [3,192,48,768,48]
theorem aEZ:aD Go.Proofs.Tryz.prog (fun _=>true) x96 96=true:=by decide+kernel
noncomputable def x97:aF:=cF Tryz.f97 [92,348,16732,131420,348,0x400015c,348,0x8000015c,348,0x100000015c,192,600,1624,1624,0x8000000000658,1624,1624,192]
theorem aE0:aD Go.Proofs.Tryz.prog (fun _=>true) x97 97=true:=by decide+kernel
noncomputable def x98:aF:=cF Tryz.f98 [92,348,0x80015c,192,604,0x2000025c,192,0x70000005c,0x70000005c,0xf0000005c,0x70000085c,0x400000070000005c,192,0x70000005c,0xe000000000000005c,0xe000000000000005c,0x1e000000000000005c,0xe000000000000305c,0x100e000000000000005c,192,0xe000000000000005c,0x38000000000000000005c,0x38000000000000000005c,0x78000000000000000005c,0x38000000000000000805c,0x38000000000000002805c,0x3800000000000000a005c,0x10000038000000000000000005c,192,0x38000000000000000005c,192]
theorem aE1:aD Go.Proofs.Tryz.prog (fun _=>true) x98 98=true:=by decide+kernel
noncomputable def x99:aF:=cG Tryz.f99 md [2,10,26,458776,458776,983064,458872,0x1c0070058,0x1c0070058,0x3c0070058,0x1c0070158,0x401c0070158,0x1c0070058,0x1c0070058,458776,4] [(0,[(4,2)]),(1,[(4,2)])] []
theorem aE2:aD Go.Proofs.Tryz.prog (fun _=>true) x99 99=true:=by decide+kernel
noncomputable def aE3:aF:=cF Tryz.f100 [6,38,38,1062,0x100026,16,38,16]
theorem UU:aD Go.Proofs.Tryz.prog (fun _=>true) aE3 100=true:=by decide+kernel
noncomputable def aE4:aF:=cF Tryz.f102 [92,64]
theorem UV:aD Go.Proofs.Tryz.prog (fun _=>true) aE4 102=true:=by decide+kernel
noncomputable def aE5:aF:=cG Tryz.f103 (mdX [37]) [92,348,860,860,0x80035c,0x80000035c,860,860,0x2000000000154,3396,0x200000000000d44,192,324,4420,4420,0x10000000000001144,0x2000000000000001144,45380,0x200000000000000000b144,192,4420,4420,192] [] []
theorem UW:aD Go.Proofs.Tryz.prog (fun _=>true) aE5 103=true:=by decide+kernel
noncomputable def aE6:aF:=cF Tryz.f104 [12,524300,16,44,44,0x100002c,0x200000002c,16,44,16]
theorem UX:aD Go.Proofs.Tryz.prog (fun _=>true) aE6 104=true:=by decide+kernel
noncomputable def aE7:aF:=cF Tryz.f105 [12,0x1000000c,16,44,44,0x20000002c,0x40000000002c,16,44,16]
theorem UY:aD Go.Proofs.Tryz.prog (fun _=>true) aE7 105=true:=by decide+kernel
noncomputable def aE8:aF:=cF Tryz.f106 [2,0x40000000,4,4]
theorem UZ:aD Go.Proofs.Tryz.prog (fun _=>true) aE8 106=true:=by decide+kernel
noncomputable def aE9:aF:=cF Tryz.f107 [2,524290,4,10,10,0x100000a,26,0x800000000000001a,4,58,58,0x4000000000000003a,0x2000000000000000003a,4,58,10,4]
theorem U0:aD Go.Proofs.Tryz.prog (fun _=>true) aE9 107=true:=by decide+kernel
noncomputable def aFa:aF:=cF Tryz.f110 [120,192]
theorem U1:aD Go.Proofs.Tryz.prog (fun _=>true) aFa 110=true:=by decide+kernel
noncomputable def aFb:aF:=cF Tryz.f113 [6,518,16,16]
theorem U2:aD Go.Proofs.Tryz.prog (fun _=>true) aFb 113=true:=by decide+kernel
noncomputable def aFc:aF:=cF Tryz.f114 [60,1084,256,0x8000000c,256,256]
theorem U3:aD Go.Proofs.Tryz.prog (fun _=>true) aFc 114=true:=by decide+kernel
noncomputable def aFd:aF:=cF Tryz.f115 [12,44,44,1068,0x10002c,16,44,16]
theorem U4:aD Go.Proofs.Tryz.prog (fun _=>true) aFd 115=true:=by decide+kernel
noncomputable def aFe:aF:=cF Tryz.f117 [3,3,67,3,16]
theorem U5:aD Go.Proofs.Tryz.prog (fun _=>true) aFe 117=true:=by decide+kernel
noncomputable def aFf:aF:=cF Tryz.f118 [1,17,4,4]
theorem U6:aD Go.Proofs.Tryz.prog (fun _=>true) aFf 118=true:=by decide+kernel
noncomputable def aFg:aF:=cG Tryz.f119 md [5,13,29,29,1053,29,29,4] [] [(0,[(3,some 5001)])]
theorem U7:aD Go.Proofs.Tryz.prog (fun _=>true) aFg 119=true:=by decide+kernel
noncomputable def aFh:aF:=cF Tryz.f120 [6,38,4134,16,16]
theorem U8:aD Go.Proofs.Tryz.prog (fun _=>true) aFh 120=true:=by decide+kernel
noncomputable def aFi:aF:=cF Tryz.f121 [2,0x100000,4,4]
theorem U9:aD Go.Proofs.Tryz.prog (fun _=>true) aFi 121=true:=by decide+kernel
noncomputable def aFj:aF:=cF Tryz.f123 [1,4]
theorem VA:aD Go.Proofs.Tryz.prog (fun _=>true) aFj 123=true:=by decide+kernel
noncomputable def aFk:aF:=cF Tryz.f124 [7,263,1799,1799,132871,3847,0x80000f07,1799,1799,192]
theorem VB:aD Go.Proofs.Tryz.prog (fun _=>true) aFk 124=true:=by decide+kernel
noncomputable def aFl:aF:=cF Tryz.f125 [6,16]
theorem VC:aD Go.Proofs.Tryz.prog (fun _=>true) aFl 125=true:=by decide+kernel
noncomputable def aFm:aF:=cF Tryz.f126 [3,35,99,2115,4096,16,16,8195,16,65539,16,524288,16,16]
theorem VD:aD Go.Proofs.Tryz.prog (fun _=>true) aFm 126=true:=by decide+kernel
noncomputable def aFn:aF:=cF Tryz.f130 [19,51,48,16]
theorem VE:aD Go.Proofs.Tryz.prog (fun _=>true) aFn 130=true:=by decide+kernel
noncomputable def aFo:aF:=cF Tryz.f131 [2,1026,4,4096,4,4]
theorem VF:aD Go.Proofs.Tryz.prog (fun _=>true) aFo 131=true:=by decide+kernel
noncomputable def aFp:aF:=cF Tryz.f132 [12,524,16384,16,16,524300,0x1000000,16,16,16]
theorem VG:aD Go.Proofs.Tryz.prog (fun _=>true) aFp 132=true:=by decide+kernel
noncomputable def aFq:aF:=cF Tryz.f133 [12,76,4172,48,0x10000c,48,132,0x8000000080,128,48]
theorem VH:aD Go.Proofs.Tryz.prog (fun _=>true) aFq 133=true:=by decide+kernel
noncomputable def aFr:aF:=cF Tryz.f137 [6,4]
theorem VI:aD Go.Proofs.Tryz.prog (fun _=>true) aFr 137=true:=by decide+kernel
noncomputable def aFs:aF:=cF Tryz.f138 [2,0x100002,4,26,0x380001a,0x380001a,0x780001a,0x380005a,0x800000380004a,4,0x380001a,0x380001a,4]
theorem VJ:aD Go.Proofs.Tryz.prog (fun _=>true) aFs 138=true:=by decide+kernel
noncomputable def aFt:aF:=cF Tryz.f139 [2,0x1000000002,4,0x1c000000002,0x1c000000002,0x3c000000002,0x1c00000001a,0x801c00000001a,0x2001c000000002,4,0x8000000001c000000002,4,0x1c000000002,34,0x3800000000000000000022,0x3800000000000000000022,0x7800000000000000000022,0x38000000000000000000e2,0x20000038000000000000000000e2,4,0x38000000000000000000e2,0x40000000003800000000000000000022,4,0x3800000000000000000022,4]
theorem VK:aD Go.Proofs.Tryz.prog (fun _=>true) aFt 139=true:=by decide+kernel
noncomputable def aFu:aF:=cF Tryz.f140 [120,448]
theorem VL:aD Go.Proofs.Tryz.prog (fun _=>true) aFu 140=true:=by decide+kernel
noncomputable def SD:aF:=aDT Go.Proofs.Tryz.prog Tryz.f141 ⟨md,[1,9,4],[],[],true⟩
theorem VM:aD Go.Proofs.Tryz.prog (fun _=>true) SD 141=true:=by decide+kernel
noncomputable def PW:aF:=cF Tryz.f142 [9,16]
theorem VN:aD Go.Proofs.Tryz.prog (fun _=>true) PW 142=true:=by decide+kernel
noncomputable def aFv:aF:=cF Tryz.f143 [1,4]
theorem VO:aD Go.Proofs.Tryz.prog (fun _=>true) aFv 143=true:=by decide+kernel
noncomputable def VP:aF:=cF Tryz.f146 [3,259,8,8]
theorem VQ:aD Go.Proofs.Tryz.prog (fun _=>true) VP 146=true:=by decide+kernel
noncomputable def VS:aF:=cF Tryz.f147 [6,8]
theorem VT:aD Go.Proofs.Tryz.prog (fun _=>true) VS 147=true:=by decide+kernel
noncomputable def aFw:aF:=cF Tryz.f148 [9,16]
theorem VU:aD Go.Proofs.Tryz.prog (fun _=>true) aFw 148=true:=by decide+kernel
noncomputable def aFx:aF:=cF Tryz.f149 [3,16]
theorem VV:aD Go.Proofs.Tryz.prog (fun _=>true) aFx 149=true:=by decide+kernel
noncomputable def aFy:aF:=cF Tryz.f150 [3,64,48]
theorem VW:aD Go.Proofs.Tryz.prog (fun _=>true) aFy 150=true:=by decide+kernel
noncomputable def aFz:aF:=cF Tryz.f151 [3,67,195,451,963,1987,2755,6851,12995,12931,19,48]
theorem VX:aD Go.Proofs.Tryz.prog (fun _=>true) aFz 151=true:=by decide+kernel
noncomputable def aFA:aF:=cF Tryz.f152 [12,40,552,16,16]
theorem VY:aD Go.Proofs.Tryz.prog (fun _=>true) aFA 152=true:=by decide+kernel
noncomputable def aFB:aF:=cF Tryz.f153 [6,16]
theorem VZ:aD Go.Proofs.Tryz.prog (fun _=>true) aFB 153=true:=by decide+kernel
noncomputable def aFC:aF:=cF Tryz.f154 [60,262204,256,572,2620,8204,0x200000000000c,256,256]
theorem V0:aD Go.Proofs.Tryz.prog (fun _=>true) aFC 154=true:=by decide+kernel
noncomputable def aFD:aF:=cF Tryz.f155 [22,212,32980,48,48]
theorem V1:aD Go.Proofs.Tryz.prog (fun _=>true) aFD 155=true:=by decide+kernel
noncomputable def aFE:aF:=cF Tryz.f156 [92,229468,229468,491612,229980,0x203825c,229468,229468,92,0x1000000005c,1100,0x100000000044c,192,0x38000000000048,0x38000000000048,0x78000000000048,0x38000000001048,0x2038000000001048,0x38000000000448,0x400038000000000448,192,0x38000000000048,192]
theorem V2:aD Go.Proofs.Tryz.prog (fun _=>true) aFE 156=true:=by decide+kernel
noncomputable def aFF:aF:=cF Tryz.f157 [6,6,6,6,14,14,6,4]
theorem V3:aD Go.Proofs.Tryz.prog (fun _=>true) aFF 157=true:=by decide+kernel
noncomputable def aFG:aF:=cF Tryz.f159 [92,216,472,472,0x4001d8,472,472,64]
theorem V4:aD Go.Proofs.Tryz.prog (fun _=>true) aFG 159=true:=by decide+kernel
noncomputable def aFH:aF:=cF Tryz.f160 [9,41,41,553,131113,16,41,16]
theorem V5:aD Go.Proofs.Tryz.prog (fun _=>true) aFH 160=true:=by decide+kernel
noncomputable def aFI:aF:=cF Tryz.f161 [22,54,54,116,262260,116,48,16]
theorem V6:aD Go.Proofs.Tryz.prog (fun _=>true) aFI 161=true:=by decide+kernel
noncomputable def aFJ:aF:=cG Tryz.f162 (mdX [37,83]) [28,92,92,92,220,220,0x20000dc,476,988,4060,0x8000000000fdc,4060,4060,0x40000000000000000fdc,4060,0x4000000000000000000005dc,0x80000000000000000000005dc,48,12764,8668,220,220,48] [] [(0,[(6,some 11003)])]
theorem V7:aD Go.Proofs.Tryz.prog (fun _=>true) aFJ 162=true:=by decide+kernel
noncomputable def aFK:aF:=cF Tryz.f163 [28,924,0x100039c,112,1436,1308,7444,0x20000000d14,112,0x1000000000d14,112,25872,17680,1296,112]
theorem V8:aD Go.Proofs.Tryz.prog (fun _=>true) aFK 163=true:=by decide+kernel
noncomputable def aFL:aF:=cF Tryz.f164 [12,16]
theorem V9:aD Go.Proofs.Tryz.prog (fun _=>true) aFL 164=true:=by decide+kernel
noncomputable def aFM:aF:=cF Tryz.f165 [3,1027,16,35,35,16419,0x2000023,16,35,16]
theorem WA:aD Go.Proofs.Tryz.prog (fun _=>true) aFM 165=true:=by decide+kernel
noncomputable def aFN:aF:=cF Tryz.f166 [2,4]
theorem WB:aD Go.Proofs.Tryz.prog (fun _=>true) aFN 166=true:=by decide+kernel
noncomputable def aFO:aF:=cF Tryz.f169 [12,44,16]
theorem WC:aD Go.Proofs.Tryz.prog (fun _=>true) aFO 169=true:=by decide+kernel
noncomputable def aFP:aF:=cF Tryz.f170 [120,2168,192,131160,192,192]
theorem WD:aD Go.Proofs.Tryz.prog (fun _=>true) aFP 170=true:=by decide+kernel
noncomputable def aFQ:aF:=cF Tryz.f172 [56,152,8344,64,0x100018,64,64]
theorem WE:aD Go.Proofs.Tryz.prog (fun _=>true) aFQ 172=true:=by decide+kernel
noncomputable def aFR:aF:=cG Tryz.f173 md [5,13,28,28,8220,28,28,4] [] [(0,[(3,some 3001)])]
theorem WF:aD Go.Proofs.Tryz.prog (fun _=>true) aFR 173=true:=by decide+kernel
noncomputable def aFS:aF:=cF Tryz.f174 [3,3,67,3,16]
theorem WG:aD Go.Proofs.Tryz.prog (fun _=>true) aFS 174=true:=by decide+kernel
noncomputable def aFT:aF:=cF Tryz.f175 [1,17,4,4]
theorem WH:aD Go.Proofs.Tryz.prog (fun _=>true) aFT 175=true:=by decide+kernel
noncomputable def aFU:aF:=cF Tryz.f177 [1,4]
theorem WI:aD Go.Proofs.Tryz.prog (fun _=>true) aFU 177=true:=by decide+kernel
noncomputable def aFV:aF:=cF Tryz.f181 [56,312,16696,192,192]
theorem WJ:aD Go.Proofs.Tryz.prog (fun _=>true) aFV 181=true:=by decide+kernel
noncomputable def aFW:aF:=cF Tryz.f182 [19,496,1008,1776,3760,16]
theorem WK:aD Go.Proofs.Tryz.prog (fun _=>true) aFW 182=true:=by decide+kernel
noncomputable def aFX:aF:=cF Tryz.f183 [12,16]
theorem WL:aD Go.Proofs.Tryz.prog (fun _=>true) aFX 183=true:=by decide+kernel
noncomputable def aFY:aF:=cF Tryz.f184 [3,35,99,2115,4096,16,16,8195,16,65539,16,524288,16,16]
theorem WM:aD Go.Proofs.Tryz.prog (fun _=>true) aFY 184=true:=by decide+kernel
noncomputable def aFZ:aF:=cF Tryz.f185 [12,44,4140,16,16]
theorem WN:aD Go.Proofs.Tryz.prog (fun _=>true) aFZ 185=true:=by decide+kernel
noncomputable def aF0:aF:=cF Tryz.f186 [19,115,16]
theorem WQ:aD Go.Proofs.Tryz.prog (fun _=>true) aF0 186=true:=by decide+kernel
noncomputable def aF1:aF:=cF Tryz.f188 [54,950,0x20003b6,112,1462,1334,7476,0x10000000d34,44336,0x8000000000ad30,112,1328,112]
theorem WR:aD Go.Proofs.Tryz.prog (fun _=>true) aF1 188=true:=by decide+kernel
noncomputable def aF2:aF:=cF Tryz.f189 [6,6,6,14,6,4]
theorem WT:aD Go.Proofs.Tryz.prog (fun _=>true) aF2 189=true:=by decide+kernel
noncomputable def aF3:aF:=cF Tryz.f190 [2,4]
theorem WU:aD Go.Proofs.Tryz.prog (fun _=>true) aF3 190=true:=by decide+kernel
noncomputable def aF4:aF:=cF Tryz.f191 [2,10,0x80000a,4,26,50,0x800000002,4,0xe000000002,0xe000000002,0x1e000000002,0xe0000000c2,0x100000e000000002,4,0xe000000002,4]
theorem WV:aD Go.Proofs.Tryz.prog (fun _=>true) aF4 191=true:=by decide+kernel
noncomputable def aF5:aF:=cF Tryz.f192 [12,44,16]
theorem WW:aD Go.Proofs.Tryz.prog (fun _=>true) aF5 192=true:=by decide+kernel
noncomputable def aF6:aF:=cF Tryz.f193 [120,632,131704,448,0x1000078,448,0x40000058,448,3136,448]
theorem WX:aD Go.Proofs.Tryz.prog (fun _=>true) aF6 193=true:=by decide+kernel
noncomputable def aF7:aF:=cF Tryz.f194 [22,116,32820,16,16]
theorem WY:aD Go.Proofs.Tryz.prog (fun _=>true) aF7 194=true:=by decide+kernel
noncomputable def SF:aF:=cF Tryz.f195 [3,19,16,8]
theorem WZ:aD Go.Proofs.Tryz.prog (fun _=>true) SF 195=true:=by decide+kernel
noncomputable def MC:aF:=cF Tryz.f196 [3,16]
theorem W0:aD Go.Proofs.Tryz.prog (fun _=>true) MC 196=true:=by decide+kernel
noncomputable def PX:aF:=cF Tryz.f197 [3,8]
theorem W3:aD Go.Proofs.Tryz.prog (fun _=>true) PX 197=true:=by decide+kernel
end Go.Proofs.YtogihpogmfjoiaaGreat
