/- The seat's functions as the logical machine runs them (reckoned), and the look at each of them (2). Printed by a program. -/
import Derived.Test.YtlnclppkepgdmaaGreatEAX1
set_option maxRecDepth 100000
namespace Go.Proofs.YtlnclppkepgdmaaGreat
open Go.Vm
noncomputable def aEI:aF:=cF Tryz.f213 [9,393,393,905,425,65961,16,393,16]
theorem VI:aD Go.Proofs.Tryz.prog (fun _=>true) aEI 213=true:=by decide+kernel
noncomputable def aEJ:aF:=cF Tryz.f214 [3,387,387,899,419,65955,16,387,16]
theorem VJ:aD Go.Proofs.Tryz.prog (fun _=>true) aEJ 214=true:=by decide+kernel
noncomputable def aEK:aF:=cF Tryz.f217 [12,44,16]
theorem VK:aD Go.Proofs.Tryz.prog (fun _=>true) aEK 217=true:=by decide+kernel
noncomputable def aEL:aF:=cF Tryz.f218 [120,2168,192,131160,192,192]
theorem VL:aD Go.Proofs.Tryz.prog (fun _=>true) aEL 218=true:=by decide+kernel
noncomputable def aEM:aF:=cF Tryz.f220 [120,240,480,448,192,64]
theorem VM:aD Go.Proofs.Tryz.prog (fun _=>true) aEM 220=true:=by decide+kernel
noncomputable def aEN:aF:=cF Tryz.f221 [2,10,4]
theorem VN:aD Go.Proofs.Tryz.prog (fun _=>true) aEN 221=true:=by decide+kernel
noncomputable def aEO:aF:=cF Tryz.f222 [220,468,2004,1492,1472,1472,1472,192]
theorem VO:aD Go.Proofs.Tryz.prog (fun _=>true) aEO 222=true:=by decide+kernel
noncomputable def aEP:aF:=cF Tryz.f223 [28,32796,112,524316,112,0x2000001c,112,156,148,148,112]
theorem VP:aD Go.Proofs.Tryz.prog (fun _=>true) aEP 223=true:=by decide+kernel
noncomputable def aEQ:aF:=cF Tryz.f225 [56,152,65688,64,0x400000,64,64]
theorem VQ:aD Go.Proofs.Tryz.prog (fun _=>true) aEQ 225=true:=by decide+kernel
noncomputable def aER:aF:=cF Tryz.f226 [56,152,0x10000098,0x80000000,64,64,64]
theorem VS:aD Go.Proofs.Tryz.prog (fun _=>true) aER 226=true:=by decide+kernel
noncomputable def aES:aF:=cF Tryz.f227 [28,4124,52,0x40000030,48,16,0x800000001c,84,80,16,152,144,16]
theorem VT:aD Go.Proofs.Tryz.prog (fun _=>true) aES 227=true:=by decide+kernel
noncomputable def aET:aF:=cF Tryz.f229 [19,275,48,83,48]
theorem VU:aD Go.Proofs.Tryz.prog (fun _=>true) aET 229=true:=by decide+kernel
noncomputable def aEU:aF:=cF Tryz.f231 [1,9,456,456,968,488,16872,4,456,4]
theorem VV:aD Go.Proofs.Tryz.prog (fun _=>true) aEU 231=true:=by decide+kernel
noncomputable def aEV:aF:=cF Tryz.f232 [3,35,99,2115,4096,16,16,8195,16,65539,16,524288,16,16]
theorem VW:aD Go.Proofs.Tryz.prog (fun _=>true) aEV 232=true:=by decide+kernel
noncomputable def aEW:aF:=cF Tryz.f233 [1,4]
theorem VX:aD Go.Proofs.Tryz.prog (fun _=>true) aEW 233=true:=by decide+kernel
noncomputable def aEX:aF:=cF Tryz.f234 [6,70,4166,48,384,0x400080,48,48]
theorem VY:aD Go.Proofs.Tryz.prog (fun _=>true) aEX 234=true:=by decide+kernel
noncomputable def aEY:aF:=cF Tryz.f235 [7,7,65543,64,135,129,1,64]
theorem VZ:aD Go.Proofs.Tryz.prog (fun _=>true) aEY 235=true:=by decide+kernel
noncomputable def aEZ:aF:=cF Tryz.f236 [7,263,1799,1799,132871,3847,0x80000f07,1799,1799,192]
theorem V0:aD Go.Proofs.Tryz.prog (fun _=>true) aEZ 236=true:=by decide+kernel
noncomputable def aE0:aF:=cF Tryz.f237 [6,16]
theorem V1:aD Go.Proofs.Tryz.prog (fun _=>true) aE0 237=true:=by decide+kernel
noncomputable def aE1:aF:=cF Tryz.f238 [12,76,4172,48,396,0x400000c,48,48]
theorem V2:aD Go.Proofs.Tryz.prog (fun _=>true) aE1 238=true:=by decide+kernel
noncomputable def aE2:aF:=cF Tryz.f239 [54,182,950,0x80003b6,112,1458,3506,7602,7346,0x2000000000014b2,1200,112]
theorem V3:aD Go.Proofs.Tryz.prog (fun _=>true) aE2 239=true:=by decide+kernel
noncomputable def aE3:aF:=cF Tryz.f240 [6,70,4166,48,384,0x200080,48,48]
theorem V4:aD Go.Proofs.Tryz.prog (fun _=>true) aE3 240=true:=by decide+kernel
noncomputable def aE4:aF:=cF Tryz.f241 [22,86,8278,48,656,48]
theorem V5:aD Go.Proofs.Tryz.prog (fun _=>true) aE4 241=true:=by decide+kernel
noncomputable def aE5:aF:=cF Tryz.f242 [3,1027,16,12291,12291,28675,12323,0x1003003,16,12291,16]
theorem V6:aD Go.Proofs.Tryz.prog (fun _=>true) aE5 242=true:=by decide+kernel
noncomputable def aE6:aF:=cG Tryz.f243 (mdX [114]) [28,92,0x40005c,48,156,0x1000009c,48,0xe0000001c,0xe0000001c,0x1e0000001c,0xe0000021c,0x40000e0000001c,48,0xe0000001c,1052,1052,0x38000000000000041c,0x38000000000000041c,0x78000000000000041c,0x38000000000000141c,0x38000000000000f41c,0x38000000000003f41c,0x8000038000000000003f41c,0x38000000000001841c,0x38000000000000841c,0x100000000000038000000000003b41c,0x38000000000004341c,0x38000000000004341c,0x38000000000004841c,0x38000000000000841c,0x80000000000000000038000000000001841c,0x38000000000000841c,0x1000000000000000000000038000000000000841c,48,0x38000000000000041c,48] [] [(1,[(10,some 11003)])]
theorem V7:aD Go.Proofs.Tryz.prog (fun _=>true) aE6 243=true:=by decide+kernel
noncomputable def V8:aF:=cF Tryz.f244 [6,8]
theorem V9:aD Go.Proofs.Tryz.prog (fun _=>true) V8 244=true:=by decide+kernel
noncomputable def aE7:aF:=cF Tryz.f245 [28,156,412,0x20019c,112,3740,0x2000000e9c,112,0x800000000000e9c,112,0x40000000000000e9c,112,5788,5276,31892,0x10000000000000000007c94,112,0x800000000000000000003494,234640,0x400000000000000000000039490,112,5136,112]
theorem WA:aD Go.Proofs.Tryz.prog (fun _=>true) aE7 245=true:=by decide+kernel
noncomputable def WB:aF:=cF Tryz.f246 [3,33,8]
theorem WC:aD Go.Proofs.Tryz.prog (fun _=>true) WB 246=true:=by decide+kernel
noncomputable def aE8:aF:=cF Tryz.f247 [6,48]
theorem WD:aD Go.Proofs.Tryz.prog (fun _=>true) aE8 247=true:=by decide+kernel
noncomputable def aE9:aF:=cF Tryz.f249 [1,4]
theorem WE:aD Go.Proofs.Tryz.prog (fun _=>true) aE9 249=true:=by decide+kernel
noncomputable def aFa:aF:=cF Tryz.f250 [3,64,48]
theorem WF:aD Go.Proofs.Tryz.prog (fun _=>true) aFa 250=true:=by decide+kernel
noncomputable def WG:aF:=cF Tryz.f251 [7,131077,16,0,16]
theorem WH:aD Go.Proofs.Tryz.prog (fun _=>true) WG 251=true:=by decide+kernel
noncomputable def aFb:aF:=cF Tryz.f252 [3,16]
theorem WI:aD Go.Proofs.Tryz.prog (fun _=>true) aFb 252=true:=by decide+kernel
noncomputable def aFc:aF:=cF Tryz.f253 [7,263,1799,1799,132871,3847,0x80000f07,1799,1799,192]
theorem WJ:aD Go.Proofs.Tryz.prog (fun _=>true) aFc 253=true:=by decide+kernel
noncomputable def aFd:aF:=cF Tryz.f254 [6,16]
theorem WK:aD Go.Proofs.Tryz.prog (fun _=>true) aFd 254=true:=by decide+kernel
noncomputable def aFe:aF:=cF Tryz.f260 [1,4]
theorem WL:aD Go.Proofs.Tryz.prog (fun _=>true) aFe 260=true:=by decide+kernel
noncomputable def aFf:aF:=cF Tryz.f261 [28,48,16]
theorem WM:aD Go.Proofs.Tryz.prog (fun _=>true) aFf 261=true:=by decide+kernel
noncomputable def aFg:aF:=cF Tryz.f262 [14,28,60,60,60,60,12]
theorem WN:aD Go.Proofs.Tryz.prog (fun _=>true) aFg 262=true:=by decide+kernel
noncomputable def aFh:aF:=cF Tryz.f271 [6,14,6156,6156,14348,6188,6380,6572,0x200019ac,6572,0x10000019ac,6540,7948,6156,6156,4]
theorem WQ:aD Go.Proofs.Tryz.prog (fun _=>true) aFh 271=true:=by decide+kernel
noncomputable def aFi:aF:=cF Tryz.f272 [28,60,0x200030,48,16]
theorem WR:aD Go.Proofs.Tryz.prog (fun _=>true) aFi 272=true:=by decide+kernel
noncomputable def aFj:aF:=cF Tryz.f273 [78,0x100004c,192,328,0x200000140,320,192]
theorem WT:aD Go.Proofs.Tryz.prog (fun _=>true) aFj 273=true:=by decide+kernel
noncomputable def aFk:aF:=cF Tryz.f282 [7,263,1799,1799,132871,3847,0x80000f07,1799,1799,192]
theorem WU:aD Go.Proofs.Tryz.prog (fun _=>true) aFk 282=true:=by decide+kernel
noncomputable def aFl:aF:=cF Tryz.f283 [6,16]
theorem WV:aD Go.Proofs.Tryz.prog (fun _=>true) aFl 283=true:=by decide+kernel
noncomputable def aFm:aF:=cF Tryz.f284 [12,76,1100,48,48]
theorem WW:aD Go.Proofs.Tryz.prog (fun _=>true) aFm 284=true:=by decide+kernel
noncomputable def aFn:aF:=cF Tryz.f285 [28,220,65756,48,0x10001c,48,284,272,48]
theorem WX:aD Go.Proofs.Tryz.prog (fun _=>true) aFn 285=true:=by decide+kernel
noncomputable def OO:aF:=cF Tryz.f286 [6,6,4]
theorem WY:aD Go.Proofs.Tryz.prog (fun _=>true) OO 286=true:=by decide+kernel
noncomputable def aFo:aF:=cF Tryz.f287 [42,42,0x10002a,42,42,106,106,0x2000000006a,0x2000000000000006a,106,0x800000000000000006a,104,42,106,0]
theorem WZ:aD Go.Proofs.Tryz.prog (fun _=>true) aFo 287=true:=by decide+kernel
noncomputable def aFp:aF:=cF Tryz.f288 [6,48]
theorem W0:aD Go.Proofs.Tryz.prog (fun _=>true) aFp 288=true:=by decide+kernel
noncomputable def aFq:aF:=cF Tryz.f289 [120,376,524664,192,1640,0x20000668,192,2656,6752,6720,2112,192]
theorem W1:aD Go.Proofs.Tryz.prog (fun _=>true) aFq 289=true:=by decide+kernel
noncomputable def aFr:aF:=cF Tryz.f290 [248,760,0x2002f8,448,0x400000f8,448,0x10000000f8,448,7416,0x800000001cf8,448,11504,27840,26816,10432,448]
theorem W2:aD Go.Proofs.Tryz.prog (fun _=>true) aFr 290=true:=by decide+kernel
noncomputable def aFs:aF:=cF Tryz.f291 [5,28]
theorem W3:aD Go.Proofs.Tryz.prog (fun _=>true) aFs 291=true:=by decide+kernel
noncomputable def aFt:aF:=cF Tryz.f292 [28,156,4252,112,131100,112,0x40001c,112,0x10000001c,112,276,112]
theorem W4:aD Go.Proofs.Tryz.prog (fun _=>true) aFt 292=true:=by decide+kernel
noncomputable def aFu:aF:=cF Tryz.f293 [6,16]
theorem W5:aD Go.Proofs.Tryz.prog (fun _=>true) aFu 293=true:=by decide+kernel
noncomputable def aFv:aF:=cF Tryz.f294 [3,387,387,899,419,65955,16,387,16]
theorem W6:aD Go.Proofs.Tryz.prog (fun _=>true) aFv 294=true:=by decide+kernel
noncomputable def aFw:aF:=cF Tryz.f296 [19,275,48,83,48]
theorem W7:aD Go.Proofs.Tryz.prog (fun _=>true) aFw 296=true:=by decide+kernel
noncomputable def Q3:aF:=cF Tryz.f304 [6,4]
theorem W8:aD Go.Proofs.Tryz.prog (fun _=>true) Q3 304=true:=by decide+kernel
noncomputable def aFx:aF:=cF Tryz.f305 [3,16]
theorem W9:aD Go.Proofs.Tryz.prog (fun _=>true) aFx 305=true:=by decide+kernel
noncomputable def aFy:aF:=cF Tryz.f306 [42,0]
theorem XA:aD Go.Proofs.Tryz.prog (fun _=>true) aFy 306=true:=by decide+kernel
noncomputable def aFz:aF:=cF Tryz.f307 [6,16]
theorem XB:aD Go.Proofs.Tryz.prog (fun _=>true) aFz 307=true:=by decide+kernel
noncomputable def aFA:aF:=cF Tryz.f308 [3,16]
theorem XC:aD Go.Proofs.Tryz.prog (fun _=>true) aFA 308=true:=by decide+kernel
noncomputable def XD:aF:=cF Tryz.f309 [6,8]
theorem XE:aD Go.Proofs.Tryz.prog (fun _=>true) XD 309=true:=by decide+kernel
noncomputable def aFB:aF:=cF Tryz.f310 [14,46,4142,28,524302,28,206,0x2000000ce,28,460,396,396,28]
theorem XF:aD Go.Proofs.Tryz.prog (fun _=>true) aFB 310=true:=by decide+kernel
noncomputable def XG:aF:=cF Tryz.f311 [6,8]
theorem XH:aD Go.Proofs.Tryz.prog (fun _=>true) XG 311=true:=by decide+kernel
noncomputable def aFC:aF:=cF Tryz.f312 [113,0x2000071,192,0x8000070,192,192]
theorem XI:aD Go.Proofs.Tryz.prog (fun _=>true) aFC 312=true:=by decide+kernel
noncomputable def aFD:aF:=cF Tryz.f316 [3,387,387,899,419,65955,16,387,16]
theorem XJ:aD Go.Proofs.Tryz.prog (fun _=>true) aFD 316=true:=by decide+kernel
noncomputable def aFE:aF:=cF Tryz.f317 [1,17,12]
theorem XK:aD Go.Proofs.Tryz.prog (fun _=>true) aFE 317=true:=by decide+kernel
end Go.Proofs.YtlnclppkepgdmaaGreat
