/- The seat's functions as the logical machine runs them (reckoned), and the look at each of them (2). Printed by a program. -/
import Derived.Test.YtogihpogmfjoiaaGreatNAX1
set_option maxRecDepth 100000
namespace Go.Proofs.YtogihpogmfjoiaaGreat
open Go.Vm
noncomputable def aF8:aF:=cF Tryz.f209 [9,393,393,905,425,65961,16,393,16]
theorem W4:aD Go.Proofs.Tryz.prog (fun _=>true) aF8 209=true:=by decide+kernel
noncomputable def aF9:aF:=cF Tryz.f210 [3,387,387,899,419,65955,16,387,16]
theorem W5:aD Go.Proofs.Tryz.prog (fun _=>true) aF9 210=true:=by decide+kernel
noncomputable def W6:aF:=cF Tryz.f211 [3,33,8]
theorem W7:aD Go.Proofs.Tryz.prog (fun _=>true) W6 211=true:=by decide+kernel
noncomputable def aGa:aF:=cF Tryz.f212 [6,48]
theorem W8:aD Go.Proofs.Tryz.prog (fun _=>true) aGa 212=true:=by decide+kernel
noncomputable def aGb:aF:=cF Tryz.f213 [22,86,8278,48,656,48]
theorem W9:aD Go.Proofs.Tryz.prog (fun _=>true) aGb 213=true:=by decide+kernel
noncomputable def aGc:aF:=cF Tryz.f214 [3,1027,16,12291,12291,28675,12323,0x1003003,16,12291,16]
theorem XA:aD Go.Proofs.Tryz.prog (fun _=>true) aGc 214=true:=by decide+kernel
noncomputable def aGd:aF:=cG Tryz.f215 (mdX [189]) [28,92,0x40005c,48,156,0x1000009c,48,0xe0000001c,0xe0000001c,0x1e0000001c,0xe0000021c,0x40000e0000001c,48,0xe0000001c,1052,1052,0x38000000000000041c,0x38000000000000041c,0x78000000000000041c,0x38000000000000141c,0x38000000000000f41c,0x38000000000003f41c,0x8000038000000000003f41c,0x38000000000001841c,0x38000000000000841c,0x100000000000038000000000003b41c,0x38000000000004341c,0x38000000000004341c,0x38000000000004841c,0x38000000000000841c,0x80000000000000000038000000000001841c,0x38000000000000841c,0x1000000000000000000000038000000000000841c,48,0x38000000000000041c,48] [] [(1,[(10,some 11003)])]
theorem XB:aD Go.Proofs.Tryz.prog (fun _=>true) aGd 215=true:=by decide+kernel
noncomputable def XC:aF:=cF Tryz.f216 [6,8]
theorem XD:aD Go.Proofs.Tryz.prog (fun _=>true) XC 216=true:=by decide+kernel
noncomputable def aGe:aF:=cF Tryz.f217 [28,156,412,0x20019c,112,3740,0x2000000e9c,112,0x800000000000e9c,112,0x40000000000000e9c,112,5788,5276,31892,0x10000000000000000007c94,112,0x800000000000000000003494,234640,0x400000000000000000000039490,112,5136,112]
theorem XE:aD Go.Proofs.Tryz.prog (fun _=>true) aGe 217=true:=by decide+kernel
noncomputable def aGf:aF:=cG Tryz.f223 md [22,54,118,118,16502,0x1000076,118,118,16] [] [(0,[(5,some 2003)])]
theorem XF:aD Go.Proofs.Tryz.prog (fun _=>true) aGf 223=true:=by decide+kernel
noncomputable def aGg:aF:=cF Tryz.f224 [6,38,38,1062,0x100026,16,38,16]
theorem XG:aD Go.Proofs.Tryz.prog (fun _=>true) aGg 224=true:=by decide+kernel
noncomputable def aGh:aF:=cF Tryz.f225 [28,56,248,0x4000f8,248,248,248,240,0x100000000070,48,16]
theorem XH:aD Go.Proofs.Tryz.prog (fun _=>true) aGh 225=true:=by decide+kernel
noncomputable def aGi:aF:=cF Tryz.f226 [120,240,480,448,192,64]
theorem XI:aD Go.Proofs.Tryz.prog (fun _=>true) aGi 226=true:=by decide+kernel
noncomputable def aGj:aF:=cF Tryz.f227 [2,10,4]
theorem XJ:aD Go.Proofs.Tryz.prog (fun _=>true) aGj 227=true:=by decide+kernel
noncomputable def aGk:aF:=cF Tryz.f228 [220,468,2004,1492,1472,1472,1472,192]
theorem XK:aD Go.Proofs.Tryz.prog (fun _=>true) aGk 228=true:=by decide+kernel
noncomputable def aGl:aF:=cF Tryz.f229 [28,32796,112,524316,112,0x2000001c,112,156,148,148,112]
theorem XL:aD Go.Proofs.Tryz.prog (fun _=>true) aGl 229=true:=by decide+kernel
noncomputable def aGm:aF:=cF Tryz.f230 [3,1027,16,35,35,16419,0x2000023,16,35,16]
theorem XM:aD Go.Proofs.Tryz.prog (fun _=>true) aGm 230=true:=by decide+kernel
noncomputable def aGn:aF:=cF Tryz.f231 [28,48,16]
theorem XN:aD Go.Proofs.Tryz.prog (fun _=>true) aGn 231=true:=by decide+kernel
noncomputable def aGo:aF:=cF Tryz.f232 [56,64]
theorem XO:aD Go.Proofs.Tryz.prog (fun _=>true) aGo 232=true:=by decide+kernel
noncomputable def aGp:aF:=cF Tryz.f235 [56,152,65688,64,0x400000,64,64]
theorem XP:aD Go.Proofs.Tryz.prog (fun _=>true) aGp 235=true:=by decide+kernel
noncomputable def aGq:aF:=cF Tryz.f236 [56,152,0x10000098,0x80000000,64,64,64]
theorem XQ:aD Go.Proofs.Tryz.prog (fun _=>true) aGq 236=true:=by decide+kernel
noncomputable def aGr:aF:=cF Tryz.f237 [1,4]
theorem XS:aD Go.Proofs.Tryz.prog (fun _=>true) aGr 237=true:=by decide+kernel
noncomputable def aGs:aF:=cF Tryz.f238 [3,35,99,2115,4096,16,16,8195,16,65539,16,524288,16,16]
theorem XT:aD Go.Proofs.Tryz.prog (fun _=>true) aGs 238=true:=by decide+kernel
noncomputable def aGt:aF:=cF Tryz.f240 [54,436,65972,112,112]
theorem XU:aD Go.Proofs.Tryz.prog (fun _=>true) aGt 240=true:=by decide+kernel
noncomputable def aGu:aF:=cF Tryz.f241 [3,48]
theorem XV:aD Go.Proofs.Tryz.prog (fun _=>true) aGu 241=true:=by decide+kernel
noncomputable def aGv:aF:=cF Tryz.f242 [60,436,65972,112,112]
theorem XW:aD Go.Proofs.Tryz.prog (fun _=>true) aGv 242=true:=by decide+kernel
noncomputable def aGw:aF:=cF Tryz.f243 [7,7,65543,64,135,129,1,64]
theorem XX:aD Go.Proofs.Tryz.prog (fun _=>true) aGw 243=true:=by decide+kernel
noncomputable def XY:aF:=cF Tryz.f244 [7,131077,16,0,16]
theorem XZ:aD Go.Proofs.Tryz.prog (fun _=>true) XY 244=true:=by decide+kernel
noncomputable def aGx:aF:=cF Tryz.f245 [3,16]
theorem X0:aD Go.Proofs.Tryz.prog (fun _=>true) aGx 245=true:=by decide+kernel
noncomputable def aGy:aF:=cF Tryz.f246 [1,9,456,456,968,488,16872,4,456,4]
theorem X1:aD Go.Proofs.Tryz.prog (fun _=>true) aGy 246=true:=by decide+kernel
noncomputable def aGz:aF:=cF Tryz.f247 [28,92,4188,48,524316,48,48]
theorem X2:aD Go.Proofs.Tryz.prog (fun _=>true) aGz 247=true:=by decide+kernel
noncomputable def aGA:aF:=cF Tryz.f248 [6,16]
theorem X3:aD Go.Proofs.Tryz.prog (fun _=>true) aGA 248=true:=by decide+kernel
noncomputable def aGB:aF:=cF Tryz.f254 [6,16]
theorem X4:aD Go.Proofs.Tryz.prog (fun _=>true) aGB 254=true:=by decide+kernel
noncomputable def aGC:aF:=cF Tryz.f255 [120,376,524664,192,1640,0x20000668,192,2656,6752,6720,2112,192]
theorem X5:aD Go.Proofs.Tryz.prog (fun _=>true) aGC 255=true:=by decide+kernel
noncomputable def aGD:aF:=cF Tryz.f256 [248,760,0x2002f8,448,0x400000f8,448,0x10000000f8,448,7416,0x800000001cf8,448,11504,27840,26816,10432,448]
theorem X6:aD Go.Proofs.Tryz.prog (fun _=>true) aGD 256=true:=by decide+kernel
noncomputable def aGE:aF:=cF Tryz.f257 [5,28]
theorem X7:aD Go.Proofs.Tryz.prog (fun _=>true) aGE 257=true:=by decide+kernel
noncomputable def aGF:aF:=cF Tryz.f258 [28,156,4252,112,131100,112,0x40001c,112,0x10000001c,112,276,112]
theorem X8:aD Go.Proofs.Tryz.prog (fun _=>true) aGF 258=true:=by decide+kernel
noncomputable def aGG:aF:=cF Tryz.f259 [14,14,0]
theorem X9:aD Go.Proofs.Tryz.prog (fun _=>true) aGG 259=true:=by decide+kernel
noncomputable def aGH:aF:=cF Tryz.f260 [28,56,56,48,16]
theorem YA:aD Go.Proofs.Tryz.prog (fun _=>true) aGH 260=true:=by decide+kernel
noncomputable def aGI:aF:=cF Tryz.f261 [6,6,22,4118,0x100000016,22,0x400000000016,20,6]
theorem YB:aD Go.Proofs.Tryz.prog (fun _=>true) aGI 261=true:=by decide+kernel
noncomputable def aGJ:aF:=cF Tryz.f262 [6,6,0x200006,6,6,16]
theorem YC:aD Go.Proofs.Tryz.prog (fun _=>true) aGJ 262=true:=by decide+kernel
noncomputable def aGK:aF:=cF Tryz.f263 [14,28,60,60,60,60,12]
theorem YD:aD Go.Proofs.Tryz.prog (fun _=>true) aGK 263=true:=by decide+kernel
noncomputable def aGL:aF:=cF Tryz.f264 [19,275,48,83,48]
theorem YE:aD Go.Proofs.Tryz.prog (fun _=>true) aGL 264=true:=by decide+kernel
noncomputable def aGM:aF:=cF Tryz.f265 [28,4124,52,0x40000030,48,16,0x800000001c,84,80,16,152,144,16]
theorem YF:aD Go.Proofs.Tryz.prog (fun _=>true) aGM 265=true:=by decide+kernel
noncomputable def aGN:aF:=cF Tryz.f274 [6,14,6156,6156,14348,6188,6380,6572,0x200019ac,6572,0x10000019ac,6540,7948,6156,6156,4]
theorem YG:aD Go.Proofs.Tryz.prog (fun _=>true) aGN 274=true:=by decide+kernel
noncomputable def aGO:aF:=cF Tryz.f275 [1,4]
theorem YH:aD Go.Proofs.Tryz.prog (fun _=>true) aGO 275=true:=by decide+kernel
noncomputable def aGP:aF:=cF Tryz.f276 [6,70,4166,48,384,0x400080,48,48]
theorem YI:aD Go.Proofs.Tryz.prog (fun _=>true) aGP 276=true:=by decide+kernel
noncomputable def aGQ:aF:=cF Tryz.f277 [7,7,65543,64,135,129,1,64]
theorem YJ:aD Go.Proofs.Tryz.prog (fun _=>true) aGQ 277=true:=by decide+kernel
noncomputable def aGR:aF:=cF Tryz.f278 [7,263,1799,1799,132871,3847,0x80000f07,1799,1799,192]
theorem YK:aD Go.Proofs.Tryz.prog (fun _=>true) aGR 278=true:=by decide+kernel
noncomputable def aGS:aF:=cF Tryz.f279 [6,16]
theorem YL:aD Go.Proofs.Tryz.prog (fun _=>true) aGS 279=true:=by decide+kernel
noncomputable def aGT:aF:=cF Tryz.f280 [12,76,4172,48,396,0x400000c,48,48]
theorem YM:aD Go.Proofs.Tryz.prog (fun _=>true) aGT 280=true:=by decide+kernel
noncomputable def aGU:aF:=cF Tryz.f281 [54,182,950,0x80003b6,112,1458,3506,7602,7346,0x2000000000014b2,1200,112]
theorem YN:aD Go.Proofs.Tryz.prog (fun _=>true) aGU 281=true:=by decide+kernel
noncomputable def aGV:aF:=cF Tryz.f282 [3,387,387,899,419,65955,16,387,16]
theorem YO:aD Go.Proofs.Tryz.prog (fun _=>true) aGV 282=true:=by decide+kernel
noncomputable def aGW:aF:=cF Tryz.f283 [19,275,48,83,48]
theorem YP:aD Go.Proofs.Tryz.prog (fun _=>true) aGW 283=true:=by decide+kernel
noncomputable def PY:aF:=cF Tryz.f285 [6,6,4]
theorem YQ:aD Go.Proofs.Tryz.prog (fun _=>true) PY 285=true:=by decide+kernel
noncomputable def aGX:aF:=cF Tryz.f286 [42,42,0x10002a,42,42,106,106,0x2000000006a,0x2000000000000006a,106,0x800000000000000006a,104,42,106,0]
theorem YR:aD Go.Proofs.Tryz.prog (fun _=>true) aGX 286=true:=by decide+kernel
noncomputable def aGY:aF:=cF Tryz.f287 [3,16]
theorem YS:aD Go.Proofs.Tryz.prog (fun _=>true) aGY 287=true:=by decide+kernel
noncomputable def YT:aF:=cF Tryz.f288 [6,8]
theorem YU:aD Go.Proofs.Tryz.prog (fun _=>true) YT 288=true:=by decide+kernel
noncomputable def aGZ:aF:=cF Tryz.f289 [14,46,4142,28,524302,28,206,0x2000000ce,28,460,396,396,28]
theorem YV:aD Go.Proofs.Tryz.prog (fun _=>true) aGZ 289=true:=by decide+kernel
noncomputable def YW:aF:=cF Tryz.f290 [6,8]
theorem YX:aD Go.Proofs.Tryz.prog (fun _=>true) YW 290=true:=by decide+kernel
noncomputable def aG0:aF:=cF Tryz.f291 [113,0x2000071,192,0x8000070,192,192]
theorem YY:aD Go.Proofs.Tryz.prog (fun _=>true) aG0 291=true:=by decide+kernel
noncomputable def aG1:aF:=cF Tryz.f292 [28,60,0x200030,48,16]
theorem YZ:aD Go.Proofs.Tryz.prog (fun _=>true) aG1 292=true:=by decide+kernel
noncomputable def aG2:aF:=cF Tryz.f297 [7,263,1799,1799,132871,3847,0x80000f07,1799,1799,192]
theorem Y0:aD Go.Proofs.Tryz.prog (fun _=>true) aG2 297=true:=by decide+kernel
noncomputable def aG3:aF:=cF Tryz.f298 [6,16]
theorem Y1:aD Go.Proofs.Tryz.prog (fun _=>true) aG3 298=true:=by decide+kernel
noncomputable def aG4:aF:=cF Tryz.f299 [12,76,1100,48,48]
theorem Y2:aD Go.Proofs.Tryz.prog (fun _=>true) aG4 299=true:=by decide+kernel
noncomputable def aG5:aF:=cF Tryz.f300 [28,220,65756,48,0x10001c,48,284,272,48]
theorem Y3:aD Go.Proofs.Tryz.prog (fun _=>true) aG5 300=true:=by decide+kernel
noncomputable def aG6:aF:=cF Tryz.f301 [78,0x100004c,192,328,0x200000140,320,192]
theorem Y4:aD Go.Proofs.Tryz.prog (fun _=>true) aG6 301=true:=by decide+kernel
noncomputable def aG7:aF:=cF Tryz.f302 [42,0]
theorem Y5:aD Go.Proofs.Tryz.prog (fun _=>true) aG7 302=true:=by decide+kernel
noncomputable def aG8:aF:=cF Tryz.f303 [3,387,387,899,419,65955,16,387,16]
theorem Y6:aD Go.Proofs.Tryz.prog (fun _=>true) aG8 303=true:=by decide+kernel
noncomputable def aG9:aF:=cF Tryz.f304 [1,17,12]
theorem Y7:aD Go.Proofs.Tryz.prog (fun _=>true) aG9 304=true:=by decide+kernel
noncomputable def SG:aF:=cF Tryz.f305 [6,4]
theorem Y8:aD Go.Proofs.Tryz.prog (fun _=>true) SG 305=true:=by decide+kernel
noncomputable def aHa:aF:=cF Tryz.f307 [3,16]
theorem Y9:aD Go.Proofs.Tryz.prog (fun _=>true) aHa 307=true:=by decide+kernel
end Go.Proofs.YtogihpogmfjoiaaGreat
