/- The seat's functions as the logical machine runs them (reckoned), and the look at each of them (2). Printed by a program. -/
import Derived.Test.YtclphlgnjkajbaaGreatNAX1
set_option maxRecDepth 100000
namespace Go.Proofs.YtclphlgnjkajbaaGreat
open Go.Vm
noncomputable def aNA:aJ:=cF Tryz.f188 [22,150,48,48]
theorem aCq:aD Go.Proofs.Tryz.prog (fun _=>true) aNA 188=true:=by decide+kernel
noncomputable def aNB:aJ:=cF Tryz.f189 [22,86,131158,48,406,0x20000196,48,662,3732,3732,3732,0x20000000000694,13972,660,48]
theorem aCr:aD Go.Proofs.Tryz.prog (fun _=>true) aNB 189=true:=by decide+kernel
noncomputable def aNC:aJ:=cF Tryz.f190 [28,48]
theorem aCs:aD Go.Proofs.Tryz.prog (fun _=>true) aNC 190=true:=by decide+kernel
noncomputable def aND:aJ:=cF Tryz.f191 [28,48]
theorem aCt:aD Go.Proofs.Tryz.prog (fun _=>true) aND 191=true:=by decide+kernel
noncomputable def aNE:aJ:=cF Tryz.f192 [28,92,32860,48,412,0x800019c,48,668,3740,660,48]
theorem aCu:aD Go.Proofs.Tryz.prog (fun _=>true) aNE 192=true:=by decide+kernel
noncomputable def aNF:aJ:=cF Tryz.f193 [28,92,4188,48,404,0x1000194,48,48]
theorem aCv:aD Go.Proofs.Tryz.prog (fun _=>true) aNF 193=true:=by decide+kernel
noncomputable def aNG:aJ:=cF Tryz.f194 [28,48]
theorem aCw:aD Go.Proofs.Tryz.prog (fun _=>true) aNG 194=true:=by decide+kernel
noncomputable def aNH:aJ:=cF Tryz.f195 [28,48]
theorem aCx:aD Go.Proofs.Tryz.prog (fun _=>true) aNH 195=true:=by decide+kernel
noncomputable def aNI:aJ:=cF Tryz.f210 [12,4108,16,44,44,131116,0x4000002c,16,44,16]
theorem aCy:aD Go.Proofs.Tryz.prog (fun _=>true) aNI 210=true:=by decide+kernel
noncomputable def aNJ:aJ:=cF Tryz.f211 [12,524300,16,44,44,0x100002c,0x200000002c,16,44,16]
theorem aCz:aD Go.Proofs.Tryz.prog (fun _=>true) aNJ 211=true:=by decide+kernel
noncomputable def aNK:aJ:=cF Tryz.f212 [12,0x1000000c,16,44,44,0x20000002c,0x40000000002c,16,44,16]
theorem aCA:aD Go.Proofs.Tryz.prog (fun _=>true) aNK 212=true:=by decide+kernel
noncomputable def aNL:aJ:=cF Tryz.f213 [2,0x40000000,4,4]
theorem aCB:aD Go.Proofs.Tryz.prog (fun _=>true) aNL 213=true:=by decide+kernel
noncomputable def aNM:aJ:=cF Tryz.f214 [3,3,67,3,16]
theorem aCC:aD Go.Proofs.Tryz.prog (fun _=>true) aNM 214=true:=by decide+kernel
noncomputable def aNN:aJ:=cF Tryz.f215 [1,17,4,4]
theorem aCD:aD Go.Proofs.Tryz.prog (fun _=>true) aNN 215=true:=by decide+kernel
noncomputable def aNO:aJ:=cF Tryz.f216 [60,568,568,0x20000238,568,568,256]
theorem aCE:aD Go.Proofs.Tryz.prog (fun _=>true) aNO 216=true:=by decide+kernel
noncomputable def aNP:aJ:=cG Tryz.f217 (mdX [101]) [92,348,860,860,0x80035c,0x80000035c,860,860,0x2000000000154,3396,0x200000000000d44,192,324,4420,4420,0x10000000000001144,0x2000000000000001144,45380,0x200000000000000000b144,192,4420,4420,192] [] []
theorem aCF:aD Go.Proofs.Tryz.prog (fun _=>true) aNP 217=true:=by decide+kernel
noncomputable def aNQ:aJ:=cF Tryz.f218 [92,64]
theorem aCG:aD Go.Proofs.Tryz.prog (fun _=>true) aNQ 218=true:=by decide+kernel
noncomputable def aNR:aJ:=cG Tryz.f219 md [5,13,29,29,1053,29,29,4] [] [(0,[(3,some 5001)])]
theorem aCH:aD Go.Proofs.Tryz.prog (fun _=>true) aNR 219=true:=by decide+kernel
noncomputable def aNS:aJ:=cF Tryz.f220 [2,524290,4,10,10,0x100000a,26,0x800000000000001a,4,58,58,0x4000000000000003a,0x2000000000000000003a,4,58,10,4]
theorem aCI:aD Go.Proofs.Tryz.prog (fun _=>true) aNS 220=true:=by decide+kernel
noncomputable def aNT:aJ:=cF Tryz.f223 [120,192]
theorem aCJ:aD Go.Proofs.Tryz.prog (fun _=>true) aNT 223=true:=by decide+kernel
noncomputable def aNU:aJ:=cF Tryz.f225 [12,44,44,1068,0x10002c,16,44,16]
theorem aCK:aD Go.Proofs.Tryz.prog (fun _=>true) aNU 225=true:=by decide+kernel
noncomputable def aNV:aJ:=cF Tryz.f228 [6,518,16,16]
theorem aCL:aD Go.Proofs.Tryz.prog (fun _=>true) aNV 228=true:=by decide+kernel
noncomputable def aNW:aJ:=cF Tryz.f229 [60,1084,256,0x8000000c,256,256]
theorem aCM:aD Go.Proofs.Tryz.prog (fun _=>true) aNW 229=true:=by decide+kernel
noncomputable def aNX:aJ:=cG Tryz.f230 md [28,60,124,124,2172,124,124,48,16] [] [(0,[(5,some 2003)])]
theorem aCN:aD Go.Proofs.Tryz.prog (fun _=>true) aNX 230=true:=by decide+kernel
noncomputable def aNY:aJ:=cG Tryz.f231 md [7,8199,64,133,389,389,0x200185,901,1925,1925,0x8000785,0x4000000785,1925,1925,389,389,64] [(0,[(7,2)]),(1,[(9,1)])] []
theorem aCO:aD Go.Proofs.Tryz.prog (fun _=>true) aNY 231=true:=by decide+kernel
noncomputable def aNZ:aJ:=cF Tryz.f232 [12,44,108,108,32876,108,108,16]
theorem aCP:aD Go.Proofs.Tryz.prog (fun _=>true) aNZ 232=true:=by decide+kernel
noncomputable def aN0:aJ:=cF Tryz.f233 [3,16]
theorem aCQ:aD Go.Proofs.Tryz.prog (fun _=>true) aN0 233=true:=by decide+kernel
noncomputable def aN1:aJ:=cG Tryz.f234 md [1,9,25,25,281,25,25,4] [(0,[(3,2)])] []
theorem aCR:aD Go.Proofs.Tryz.prog (fun _=>true) aN1 234=true:=by decide+kernel
noncomputable def aN2:aJ:=cF Tryz.f235 [60,568,2592,8192,256]
theorem aCS:aD Go.Proofs.Tryz.prog (fun _=>true) aN2 235=true:=by decide+kernel
noncomputable def aN3:aJ:=cF Tryz.f236 [3,1027,16,12291,12291,28675,12323,0x1003003,16,12291,16]
theorem aCT:aD Go.Proofs.Tryz.prog (fun _=>true) aN3 236=true:=by decide+kernel
noncomputable def aN4:aJ:=cF Tryz.f237 [12,44,16]
theorem aCU:aD Go.Proofs.Tryz.prog (fun _=>true) aN4 237=true:=by decide+kernel
noncomputable def aN5:aJ:=cF Tryz.f238 [12,16]
theorem aCV:aD Go.Proofs.Tryz.prog (fun _=>true) aN5 238=true:=by decide+kernel
noncomputable def aN6:aJ:=cF Tryz.f239 [3,35,99,2115,4096,16,16,8195,16,65539,16,524288,16,16]
theorem aCW:aD Go.Proofs.Tryz.prog (fun _=>true) aN6 239=true:=by decide+kernel
noncomputable def aN7:aJ:=cF Tryz.f240 [12,44,4140,16,16]
theorem aCX:aD Go.Proofs.Tryz.prog (fun _=>true) aN7 240=true:=by decide+kernel
noncomputable def aN8:aJ:=cF Tryz.f241 [19,115,16]
theorem aCY:aD Go.Proofs.Tryz.prog (fun _=>true) aN8 241=true:=by decide+kernel
noncomputable def aN9:aJ:=cF Tryz.f242 [12,76,524364,48,140,0x2000000c,48,1544,0x2000000208,48,2048,48]
theorem aCZ:aD Go.Proofs.Tryz.prog (fun _=>true) aN9 242=true:=by decide+kernel
noncomputable def aOa:aJ:=cF Tryz.f243 [6,6,6,14,6,4]
theorem aC0:aD Go.Proofs.Tryz.prog (fun _=>true) aOa 243=true:=by decide+kernel
noncomputable def aOb:aJ:=cF Tryz.f244 [54,950,0x20003b6,112,1462,1334,7476,0x10000000d34,44336,0x8000000000ad30,112,1328,112]
theorem aC1:aD Go.Proofs.Tryz.prog (fun _=>true) aOb 244=true:=by decide+kernel
noncomputable def aOc:aJ:=cG Tryz.f245 md [28,92,524380,48,156,412,0x700019c,0x700019c,0xf00019c,0x700079c,0x7000f9c,0x7000f9c,0x1007000f9c,0x7001f9c,0x7003f9c,0x40000007001f9c,0x7000f9c,0x10000000007000b9c,0x7000b9c,0x7000b9c,0x700019c,0x700019c,48] [(0,[(8,1)])] [(0,[(7,some 2003),(1000008,none)]),(1,[(1000008,none)])]
theorem aC2:aD Go.Proofs.Tryz.prog (fun _=>true) aOc 245=true:=by decide+kernel
noncomputable def aOd:aJ:=cG Tryz.f246 md [93,0x20005d,1117,0x1c00045d,0x1c00045d,0x3c00045d,0x1c00145d,0x1c00345d,0x801c00145d,0x1c00045d,0x1c00045d,1113,33881,0x1c00000008458,0x1c00000008458,0x3c00000008458,0x1c00000028458,0x101c00000028458,0x1c00000068458,0x1c00000008458,0x1c00000008458,33880,0] [] [(1,[(15,some 1003),(15,some 2003)])]
theorem aC3:aD Go.Proofs.Tryz.prog (fun _=>true) aOd 246=true:=by decide+kernel
noncomputable def aOe:aJ:=cF Tryz.f247 [9,393,393,905,425,65961,16,393,16]
theorem aC4:aD Go.Proofs.Tryz.prog (fun _=>true) aOe 247=true:=by decide+kernel
noncomputable def aOf:aJ:=cF Tryz.f248 [22,86,8278,48,656,48]
theorem aC5:aD Go.Proofs.Tryz.prog (fun _=>true) aOf 248=true:=by decide+kernel
noncomputable def aOg:aJ:=cF Tryz.f249 [3,1027,16,12291,12291,28675,12323,0x1003003,16,12291,16]
theorem aC6:aD Go.Proofs.Tryz.prog (fun _=>true) aOg 249=true:=by decide+kernel
noncomputable def aOh:aJ:=cG Tryz.f250 (mdX [243]) [28,92,0x40005c,48,156,0x1000009c,48,0xe0000001c,0xe0000001c,0x1e0000001c,0xe0000021c,0x40000e0000001c,48,0xe0000001c,1052,1052,0x38000000000000041c,0x38000000000000041c,0x78000000000000041c,0x38000000000000141c,0x38000000000000f41c,0x38000000000003f41c,0x8000038000000000003f41c,0x38000000000001841c,0x38000000000000841c,0x100000000000038000000000003b41c,0x38000000000004341c,0x38000000000004341c,0x38000000000004841c,0x38000000000000841c,0x80000000000000000038000000000001841c,0x38000000000000841c,0x1000000000000000000000038000000000000841c,48,0x38000000000000041c,48] [] [(1,[(10,some 11003)])]
theorem aC7:aD Go.Proofs.Tryz.prog (fun _=>true) aOh 250=true:=by decide+kernel
noncomputable def aC8:aJ:=cF Tryz.f251 [6,8]
theorem aC9:aD Go.Proofs.Tryz.prog (fun _=>true) aC8 251=true:=by decide+kernel
noncomputable def aOi:aJ:=cF Tryz.f252 [28,156,412,0x20019c,112,3740,0x2000000e9c,112,0x800000000000e9c,112,0x40000000000000e9c,112,5788,5276,31892,0x10000000000000000007c94,112,0x800000000000000000003494,234640,0x400000000000000000000039490,112,5136,112]
theorem aDa:aD Go.Proofs.Tryz.prog (fun _=>true) aOi 252=true:=by decide+kernel
noncomputable def aOj:aJ:=cF Tryz.f257 [2,4]
theorem aDb:aD Go.Proofs.Tryz.prog (fun _=>true) aOj 257=true:=by decide+kernel
noncomputable def aOk:aJ:=cF Tryz.f258 [2,10,0x80000a,4,26,50,0x800000002,4,0xe000000002,0xe000000002,0x1e000000002,0xe0000000c2,0x100000e000000002,4,0xe000000002,4]
theorem aDc:aD Go.Proofs.Tryz.prog (fun _=>true) aOk 258=true:=by decide+kernel
noncomputable def aOl:aJ:=cF Tryz.f259 [12,44,16]
theorem aDd:aD Go.Proofs.Tryz.prog (fun _=>true) aOl 259=true:=by decide+kernel
noncomputable def aOm:aJ:=cF Tryz.f260 [120,632,131704,448,0x1000078,448,0x40000058,448,3136,448]
theorem aDe:aD Go.Proofs.Tryz.prog (fun _=>true) aOm 260=true:=by decide+kernel
noncomputable def aOn:aJ:=cF Tryz.f261 [22,116,32820,16,16]
theorem aDf:aD Go.Proofs.Tryz.prog (fun _=>true) aOn 261=true:=by decide+kernel
noncomputable def ZP:aJ:=cF Tryz.f262 [3,19,16,8]
theorem aDg:aD Go.Proofs.Tryz.prog (fun _=>true) ZP 262=true:=by decide+kernel
noncomputable def SP:aJ:=cF Tryz.f263 [3,16]
theorem aDh:aD Go.Proofs.Tryz.prog (fun _=>true) SP 263=true:=by decide+kernel
noncomputable def WX:aJ:=cF Tryz.f264 [3,8]
theorem aDi:aD Go.Proofs.Tryz.prog (fun _=>true) WX 264=true:=by decide+kernel
noncomputable def aOo:aJ:=cF Tryz.f276 [3,387,387,899,419,65955,16,387,16]
theorem aDj:aD Go.Proofs.Tryz.prog (fun _=>true) aOo 276=true:=by decide+kernel
noncomputable def aOp:aJ:=cF Tryz.f277 [1,4]
theorem aDk:aD Go.Proofs.Tryz.prog (fun _=>true) aOp 277=true:=by decide+kernel
noncomputable def aDl:aJ:=cF Tryz.f279 [3,33,8]
theorem aDm:aD Go.Proofs.Tryz.prog (fun _=>true) aDl 279=true:=by decide+kernel
noncomputable def aOq:aJ:=cF Tryz.f280 [6,48]
theorem aDn:aD Go.Proofs.Tryz.prog (fun _=>true) aOq 280=true:=by decide+kernel
noncomputable def aOr:aJ:=cF Tryz.f281 [56,312,16696,192,192]
theorem aDo:aD Go.Proofs.Tryz.prog (fun _=>true) aOr 281=true:=by decide+kernel
noncomputable def aOs:aJ:=cF Tryz.f284 [6,4]
theorem aDp:aD Go.Proofs.Tryz.prog (fun _=>true) aOs 284=true:=by decide+kernel
noncomputable def WY:aJ:=cF Tryz.f285 [56,288,352,192,192]
theorem aDq:aD Go.Proofs.Tryz.prog (fun _=>true) WY 285=true:=by decide+kernel
noncomputable def aOt:aJ:=cF Tryz.f286 [92,836,525124,192,192]
theorem aDr:aD Go.Proofs.Tryz.prog (fun _=>true) aOt 286=true:=by decide+kernel
noncomputable def aOu:aJ:=cF Tryz.f287 [22,86,32854,48,404,0x8000194,48,660,2832,0x1000000000b10,48,48]
theorem aDs:aD Go.Proofs.Tryz.prog (fun _=>true) aOu 287=true:=by decide+kernel
noncomputable def aDt:aJ:=cF Tryz.f288 [14,24]
theorem aDu:aD Go.Proofs.Tryz.prog (fun _=>true) aDt 288=true:=by decide+kernel
noncomputable def aOv:aJ:=cF Tryz.f289 [22,86,4182,48,404,0x1000194,48,48]
theorem aDv:aD Go.Proofs.Tryz.prog (fun _=>true) aOv 289=true:=by decide+kernel
noncomputable def aDw:aJ:=cF Tryz.f290 [14,24]
theorem aDx:aD Go.Proofs.Tryz.prog (fun _=>true) aDw 290=true:=by decide+kernel
noncomputable def aDy:aJ:=cF Tryz.f291 [14,24]
theorem aDz:aD Go.Proofs.Tryz.prog (fun _=>true) aDy 291=true:=by decide+kernel
noncomputable def aDA:aJ:=cF Tryz.f292 [14,24]
theorem aDB:aD Go.Proofs.Tryz.prog (fun _=>true) aDA 292=true:=by decide+kernel
noncomputable def aOw:aJ:=cF Tryz.f293 [28,92,16476,48,156,0x10009c,48,796,0x8000031c,48,1304,1040,48]
theorem aDC:aD Go.Proofs.Tryz.prog (fun _=>true) aOw 293=true:=by decide+kernel
noncomputable def aDD:aJ:=cF Tryz.f294 [14,24]
theorem aDE:aD Go.Proofs.Tryz.prog (fun _=>true) aDD 294=true:=by decide+kernel
noncomputable def aDF:aJ:=cF Tryz.f295 [14,24]
theorem aDG:aD Go.Proofs.Tryz.prog (fun _=>true) aDF 295=true:=by decide+kernel
noncomputable def aOx:aJ:=cF Tryz.f309 [12,16]
theorem aDH:aD Go.Proofs.Tryz.prog (fun _=>true) aOx 309=true:=by decide+kernel
noncomputable def aOy:aJ:=cF Tryz.f310 [3,1027,16,35,35,16419,0x2000023,16,35,16]
theorem aDI:aD Go.Proofs.Tryz.prog (fun _=>true) aOy 310=true:=by decide+kernel
noncomputable def aOz:aJ:=cF Tryz.f311 [60,256]
theorem aDJ:aD Go.Proofs.Tryz.prog (fun _=>true) aOz 311=true:=by decide+kernel
noncomputable def aOA:aJ:=cF Tryz.f312 [9,41,41,553,131113,16,41,16]
theorem aDK:aD Go.Proofs.Tryz.prog (fun _=>true) aOA 312=true:=by decide+kernel
noncomputable def aOB:aJ:=cF Tryz.f313 [22,54,54,116,262260,116,48,16]
theorem aDL:aD Go.Proofs.Tryz.prog (fun _=>true) aOB 313=true:=by decide+kernel
noncomputable def aOC:aJ:=cG Tryz.f314 (mdX [101,182]) [28,92,92,92,220,220,0x20000dc,476,988,4060,0x8000000000fdc,4060,4060,0x40000000000000000fdc,4060,0x4000000000000000000005dc,0x80000000000000000000005dc,48,12764,8668,220,220,48] [] [(0,[(6,some 11003)])]
theorem aDM:aD Go.Proofs.Tryz.prog (fun _=>true) aOC 314=true:=by decide+kernel
noncomputable def aOD:aJ:=cF Tryz.f315 [28,924,0x100039c,112,1436,1308,7444,0x20000000d14,112,0x1000000000d14,112,25872,17680,1296,112]
theorem aDN:aD Go.Proofs.Tryz.prog (fun _=>true) aOD 315=true:=by decide+kernel
noncomputable def aOE:aJ:=cF Tryz.f316 [92,216,472,472,0x4001d8,472,472,64]
theorem aDO:aD Go.Proofs.Tryz.prog (fun _=>true) aOE 316=true:=by decide+kernel
noncomputable def aOF:aJ:=cG Tryz.f317 md [5,13,28,28,8220,28,28,4] [] [(0,[(3,some 3001)])]
theorem aDP:aD Go.Proofs.Tryz.prog (fun _=>true) aOF 317=true:=by decide+kernel
noncomputable def aOG:aJ:=cF Tryz.f318 [2,4]
theorem aDQ:aD Go.Proofs.Tryz.prog (fun _=>true) aOG 318=true:=by decide+kernel
noncomputable def aOH:aJ:=cF Tryz.f321 [12,44,16]
theorem aDR:aD Go.Proofs.Tryz.prog (fun _=>true) aOH 321=true:=by decide+kernel
noncomputable def aOI:aJ:=cF Tryz.f322 [120,2168,192,131160,192,192]
theorem aDS:aD Go.Proofs.Tryz.prog (fun _=>true) aOI 322=true:=by decide+kernel
noncomputable def aOJ:aJ:=cF Tryz.f324 [56,152,8344,64,0x100018,64,64]
theorem aDT:aD Go.Proofs.Tryz.prog (fun _=>true) aOJ 324=true:=by decide+kernel
noncomputable def aOK:aJ:=cF Tryz.f325 [248,2296,264440,2288,2048,1024]
theorem aDU:aD Go.Proofs.Tryz.prog (fun _=>true) aOK 325=true:=by decide+kernel
noncomputable def aOL:aJ:=cF Tryz.f326 [56,184,440,440,8632,0x4000001b8,440,440,64]
theorem aDV:aD Go.Proofs.Tryz.prog (fun _=>true) aOL 326=true:=by decide+kernel
noncomputable def aDW:aJ:=cF Tryz.f327 [6,8]
theorem aDX:aD Go.Proofs.Tryz.prog (fun _=>true) aDW 327=true:=by decide+kernel
noncomputable def aOM:aJ:=cF Tryz.f328 [1,4]
theorem aDY:aD Go.Proofs.Tryz.prog (fun _=>true) aOM 328=true:=by decide+kernel
noncomputable def aON:aJ:=cF Tryz.f329 [3,35,99,2115,4096,16,16,8195,16,65539,16,524288,16,16]
theorem aDZ:aD Go.Proofs.Tryz.prog (fun _=>true) aON 329=true:=by decide+kernel
noncomputable def aOO:aJ:=cF Tryz.f330 [6,22,278,12,16390,12,12]
theorem aD0:aD Go.Proofs.Tryz.prog (fun _=>true) aOO 330=true:=by decide+kernel
noncomputable def aOP:aJ:=cF Tryz.f331 [54,436,65972,112,112]
theorem aD1:aD Go.Proofs.Tryz.prog (fun _=>true) aOP 331=true:=by decide+kernel
noncomputable def aOQ:aJ:=cF Tryz.f332 [3,48]
theorem aD2:aD Go.Proofs.Tryz.prog (fun _=>true) aOQ 332=true:=by decide+kernel
noncomputable def aOR:aJ:=cF Tryz.f333 [60,436,65972,112,112]
theorem aD3:aD Go.Proofs.Tryz.prog (fun _=>true) aOR 333=true:=by decide+kernel
noncomputable def aOS:aJ:=cF Tryz.f334 [7,7,65543,64,135,129,1,64]
theorem aD4:aD Go.Proofs.Tryz.prog (fun _=>true) aOS 334=true:=by decide+kernel
noncomputable def aOT:aJ:=cF Tryz.f335 [12,40,552,16,16]
theorem aD5:aD Go.Proofs.Tryz.prog (fun _=>true) aOT 335=true:=by decide+kernel
noncomputable def aOU:aJ:=cF Tryz.f336 [120,376,524664,192,1640,0x20000668,192,2656,6752,6720,2112,192]
theorem aD6:aD Go.Proofs.Tryz.prog (fun _=>true) aOU 336=true:=by decide+kernel
noncomputable def aOV:aJ:=cF Tryz.f337 [248,760,0x2002f8,448,0x400000f8,448,0x10000000f8,448,7416,0x800000001cf8,448,11504,27840,26816,10432,448]
theorem aD7:aD Go.Proofs.Tryz.prog (fun _=>true) aOV 337=true:=by decide+kernel
noncomputable def aOW:aJ:=cF Tryz.f338 [5,28]
theorem aD8:aD Go.Proofs.Tryz.prog (fun _=>true) aOW 338=true:=by decide+kernel
noncomputable def aOX:aJ:=cF Tryz.f339 [28,156,4252,112,131100,112,0x40001c,112,0x10000001c,112,276,112]
theorem aD9:aD Go.Proofs.Tryz.prog (fun _=>true) aOX 339=true:=by decide+kernel
noncomputable def aEa:aJ:=cF Tryz.f340 [7,131077,16,0,16]
theorem aEb:aD Go.Proofs.Tryz.prog (fun _=>true) aEa 340=true:=by decide+kernel
noncomputable def aOY:aJ:=cF Tryz.f341 [3,16]
theorem aEc:aD Go.Proofs.Tryz.prog (fun _=>true) aOY 341=true:=by decide+kernel
noncomputable def aOZ:aJ:=cF Tryz.f342 [1,9,456,456,968,488,16872,4,456,4]
theorem aEd:aD Go.Proofs.Tryz.prog (fun _=>true) aOZ 342=true:=by decide+kernel
noncomputable def aO0:aJ:=cF Tryz.f343 [56,152,65688,64,0x400000,64,64]
theorem aEe:aD Go.Proofs.Tryz.prog (fun _=>true) aO0 343=true:=by decide+kernel
noncomputable def aO1:aJ:=cF Tryz.f344 [56,152,0x10000098,0x80000000,64,64,64]
theorem aEf:aD Go.Proofs.Tryz.prog (fun _=>true) aO1 344=true:=by decide+kernel
noncomputable def aO2:aJ:=cF Tryz.f345 [28,92,4188,48,524316,48,48]
theorem aEg:aD Go.Proofs.Tryz.prog (fun _=>true) aO2 345=true:=by decide+kernel
noncomputable def aO3:aJ:=cF Tryz.f346 [6,16]
theorem aEh:aD Go.Proofs.Tryz.prog (fun _=>true) aO3 346=true:=by decide+kernel
noncomputable def aO4:aJ:=cF Tryz.f353 [6,16]
theorem aEi:aD Go.Proofs.Tryz.prog (fun _=>true) aO4 353=true:=by decide+kernel
noncomputable def WZ:aJ:=cF Tryz.f354 [31,286,1296,4096,128]
theorem aEj:aD Go.Proofs.Tryz.prog (fun _=>true) WZ 354=true:=by decide+kernel
noncomputable def W0:aJ:=cF Tryz.f355 [7,7,16391,7,7,16]
theorem aEk:aD Go.Proofs.Tryz.prog (fun _=>true) W0 355=true:=by decide+kernel
noncomputable def W3:aJ:=cF Tryz.f356 [7,7,39,103,103,0x200067,0x8000067,103,103,0x80000027,16,38,7]
theorem aEl:aD Go.Proofs.Tryz.prog (fun _=>true) W3 356=true:=by decide+kernel
noncomputable def aO5:aJ:=cG Tryz.f357 md [1,9,3081,3081,7177,3097,3081,3081,4] [(0,[(3,2)])] []
theorem aEm:aD Go.Proofs.Tryz.prog (fun _=>true) aO5 357=true:=by decide+kernel
noncomputable def aO6:aJ:=cG Tryz.f358 md [2,10,458762,458762,983050,458810,0x1807001a,0x1807001a,0x3807001a,0x1807009a,0x11807009a,0x1807001a,0x1807001a,458762,266,0x7000000010a,0x7000000010a,0xf000000010a,0x7000000070a,0x407000000070a,0x7000000010a,0x7000000010a,4] [(2,[(8,2)])] []
theorem aEn:aD Go.Proofs.Tryz.prog (fun _=>true) aO6 358=true:=by decide+kernel
noncomputable def aO7:aJ:=cF Tryz.f361 [12,96,0x200060,0x4000000,16,16,0x20000060,16,16]
theorem aEo:aD Go.Proofs.Tryz.prog (fun _=>true) aO7 361=true:=by decide+kernel
noncomputable def aO8:aJ:=cF Tryz.f365 [3,1027,16,35,35,16419,0x2000023,16,35,16]
theorem aEp:aD Go.Proofs.Tryz.prog (fun _=>true) aO8 365=true:=by decide+kernel
noncomputable def aO9:aJ:=cG Tryz.f366 md [22,54,118,118,16502,0x1000076,118,118,16] [] [(0,[(5,some 2003)])]
theorem aEq:aD Go.Proofs.Tryz.prog (fun _=>true) aO9 366=true:=by decide+kernel
noncomputable def aPa:aJ:=cF Tryz.f367 [6,38,38,1062,0x100026,16,38,16]
theorem aEr:aD Go.Proofs.Tryz.prog (fun _=>true) aPa 367=true:=by decide+kernel
noncomputable def aPb:aJ:=cF Tryz.f368 [28,56,248,0x4000f8,248,248,248,240,0x100000000070,48,16]
theorem aEs:aD Go.Proofs.Tryz.prog (fun _=>true) aPb 368=true:=by decide+kernel
noncomputable def aPc:aJ:=cF Tryz.f369 [120,240,480,448,192,64]
theorem aEt:aD Go.Proofs.Tryz.prog (fun _=>true) aPc 369=true:=by decide+kernel
noncomputable def aPd:aJ:=cF Tryz.f370 [2,10,4]
theorem aEu:aD Go.Proofs.Tryz.prog (fun _=>true) aPd 370=true:=by decide+kernel
noncomputable def aPe:aJ:=cF Tryz.f371 [220,468,2004,1492,1472,1472,1472,192]
theorem aEv:aD Go.Proofs.Tryz.prog (fun _=>true) aPe 371=true:=by decide+kernel
noncomputable def aPf:aJ:=cF Tryz.f372 [28,32796,112,524316,112,0x2000001c,112,156,148,148,112]
theorem aEw:aD Go.Proofs.Tryz.prog (fun _=>true) aPf 372=true:=by decide+kernel
noncomputable def aPg:aJ:=cF Tryz.f373 [28,48,16]
theorem aEx:aD Go.Proofs.Tryz.prog (fun _=>true) aPg 373=true:=by decide+kernel
noncomputable def aPh:aJ:=cF Tryz.f374 [56,64]
theorem aEy:aD Go.Proofs.Tryz.prog (fun _=>true) aPh 374=true:=by decide+kernel
noncomputable def aPi:aJ:=cF Tryz.f375 [60,572,1592,1592,17976,0x100000638,1592,1592,256]
theorem aEz:aD Go.Proofs.Tryz.prog (fun _=>true) aPi 375=true:=by decide+kernel
noncomputable def aPj:aJ:=cF Tryz.f376 [1,4]
theorem aEA:aD Go.Proofs.Tryz.prog (fun _=>true) aPj 376=true:=by decide+kernel
noncomputable def aPk:aJ:=cF Tryz.f377 [6,70,4166,48,384,0x400080,48,48]
theorem aEB:aD Go.Proofs.Tryz.prog (fun _=>true) aPk 377=true:=by decide+kernel
noncomputable def aPl:aJ:=cF Tryz.f378 [7,7,65543,64,135,129,1,64]
theorem aEC:aD Go.Proofs.Tryz.prog (fun _=>true) aPl 378=true:=by decide+kernel
noncomputable def aPm:aJ:=cF Tryz.f379 [7,263,1799,1799,132871,3847,0x80000f07,1799,1799,192]
theorem aED:aD Go.Proofs.Tryz.prog (fun _=>true) aPm 379=true:=by decide+kernel
noncomputable def aPn:aJ:=cF Tryz.f380 [6,16]
theorem aEE:aD Go.Proofs.Tryz.prog (fun _=>true) aPn 380=true:=by decide+kernel
noncomputable def aPo:aJ:=cF Tryz.f381 [12,76,4172,48,396,0x400000c,48,48]
theorem aEF:aD Go.Proofs.Tryz.prog (fun _=>true) aPo 381=true:=by decide+kernel
end Go.Proofs.YtclphlgnjkajbaaGreat
