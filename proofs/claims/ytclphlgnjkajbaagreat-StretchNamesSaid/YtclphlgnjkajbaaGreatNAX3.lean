/- The seat's functions as the logical machine runs them (reckoned), and the look at each of them (3). Printed by a program. -/
import Derived.Test.YtclphlgnjkajbaaGreatNAX2
set_option maxRecDepth 100000
namespace Go.Proofs.YtclphlgnjkajbaaGreat
open Go.Vm
noncomputable def aPp:aJ:=cF Tryz.f382 [54,182,950,0x80003b6,112,1458,3506,7602,7346,0x2000000000014b2,1200,112]
theorem aEG:aD Go.Proofs.Tryz.prog (fun _=>true) aPp 382=true:=by decide+kernel
noncomputable def W4:aJ:=cF Tryz.f383 [6,6,4]
theorem aEH:aD Go.Proofs.Tryz.prog (fun _=>true) W4 383=true:=by decide+kernel
noncomputable def aPq:aJ:=cF Tryz.f384 [42,42,0x10002a,42,42,106,106,0x2000000006a,0x2000000000000006a,106,0x800000000000000006a,104,42,106,0]
theorem aEI:aD Go.Proofs.Tryz.prog (fun _=>true) aPq 384=true:=by decide+kernel
noncomputable def aPr:aJ:=cF Tryz.f385 [3,16]
theorem aEJ:aD Go.Proofs.Tryz.prog (fun _=>true) aPr 385=true:=by decide+kernel
noncomputable def aEK:aJ:=cF Tryz.f386 [6,8]
theorem aEL:aD Go.Proofs.Tryz.prog (fun _=>true) aEK 386=true:=by decide+kernel
noncomputable def aPs:aJ:=cF Tryz.f387 [14,46,4142,28,524302,28,206,0x2000000ce,28,460,396,396,28]
theorem aEM:aD Go.Proofs.Tryz.prog (fun _=>true) aPs 387=true:=by decide+kernel
noncomputable def aEN:aJ:=cF Tryz.f388 [6,8]
theorem aEO:aD Go.Proofs.Tryz.prog (fun _=>true) aEN 388=true:=by decide+kernel
noncomputable def aPt:aJ:=cF Tryz.f389 [3,387,387,899,419,65955,16,387,16]
theorem aEP:aD Go.Proofs.Tryz.prog (fun _=>true) aPt 389=true:=by decide+kernel
noncomputable def aPu:aJ:=cF Tryz.f390 [6,14,6156,6156,14348,6188,6380,6572,0x200019ac,6572,0x10000019ac,6540,7948,6156,6156,4]
theorem aEQ:aD Go.Proofs.Tryz.prog (fun _=>true) aPu 390=true:=by decide+kernel
noncomputable def aPv:aJ:=cF Tryz.f391 [19,275,48,83,48]
theorem aER:aD Go.Proofs.Tryz.prog (fun _=>true) aPv 391=true:=by decide+kernel
noncomputable def aPw:aJ:=cF Tryz.f393 [19,51,48,16]
theorem aES:aD Go.Proofs.Tryz.prog (fun _=>true) aPw 393=true:=by decide+kernel
noncomputable def aPx:aJ:=cF Tryz.f394 [2,1026,4,4096,4,4]
theorem aET:aD Go.Proofs.Tryz.prog (fun _=>true) aPx 394=true:=by decide+kernel
noncomputable def aPy:aJ:=cF Tryz.f395 [12,524,16384,16,16,524300,0x1000000,16,16,16]
theorem aEU:aD Go.Proofs.Tryz.prog (fun _=>true) aPy 395=true:=by decide+kernel
noncomputable def aPz:aJ:=cF Tryz.f397 [14,14,0]
theorem aEV:aD Go.Proofs.Tryz.prog (fun _=>true) aPz 397=true:=by decide+kernel
noncomputable def aPA:aJ:=cF Tryz.f398 [28,56,56,48,16]
theorem aEW:aD Go.Proofs.Tryz.prog (fun _=>true) aPA 398=true:=by decide+kernel
noncomputable def aPB:aJ:=cF Tryz.f399 [6,6,22,4118,0x100000016,22,0x400000000016,20,6]
theorem aEX:aD Go.Proofs.Tryz.prog (fun _=>true) aPB 399=true:=by decide+kernel
noncomputable def aPC:aJ:=cF Tryz.f400 [6,6,0x200006,6,6,16]
theorem aEY:aD Go.Proofs.Tryz.prog (fun _=>true) aPC 400=true:=by decide+kernel
noncomputable def aPD:aJ:=cF Tryz.f401 [14,28,60,60,60,60,12]
theorem aEZ:aD Go.Proofs.Tryz.prog (fun _=>true) aPD 401=true:=by decide+kernel
noncomputable def aPE:aJ:=cF Tryz.f402 [19,275,48,83,48]
theorem aE0:aD Go.Proofs.Tryz.prog (fun _=>true) aPE 402=true:=by decide+kernel
noncomputable def aPF:aJ:=cF Tryz.f403 [28,4124,52,0x40000030,48,16,0x800000001c,84,80,16,152,144,16]
theorem aE1:aD Go.Proofs.Tryz.prog (fun _=>true) aPF 403=true:=by decide+kernel
noncomputable def aPG:aJ:=cF Tryz.f404 [7,263,1799,1799,132871,3847,0x80000f07,1799,1799,192]
theorem aE2:aD Go.Proofs.Tryz.prog (fun _=>true) aPG 404=true:=by decide+kernel
noncomputable def aPH:aJ:=cF Tryz.f405 [6,16]
theorem aE3:aD Go.Proofs.Tryz.prog (fun _=>true) aPH 405=true:=by decide+kernel
noncomputable def aPI:aJ:=cF Tryz.f406 [12,76,1100,48,48]
theorem aE4:aD Go.Proofs.Tryz.prog (fun _=>true) aPI 406=true:=by decide+kernel
noncomputable def aPJ:aJ:=cF Tryz.f407 [28,220,65756,48,0x10001c,48,284,272,48]
theorem aE5:aD Go.Proofs.Tryz.prog (fun _=>true) aPJ 407=true:=by decide+kernel
noncomputable def aPK:aJ:=cF Tryz.f408 [42,0]
theorem aE6:aD Go.Proofs.Tryz.prog (fun _=>true) aPK 408=true:=by decide+kernel
noncomputable def aPL:aJ:=cF Tryz.f409 [3,387,387,899,419,65955,16,387,16]
theorem aE7:aD Go.Proofs.Tryz.prog (fun _=>true) aPL 409=true:=by decide+kernel
noncomputable def aPM:aJ:=cF Tryz.f410 [1,17,12]
theorem aE8:aD Go.Proofs.Tryz.prog (fun _=>true) aPM 410=true:=by decide+kernel
noncomputable def ZQ:aJ:=cF Tryz.f411 [6,4]
theorem aE9:aD Go.Proofs.Tryz.prog (fun _=>true) ZQ 411=true:=by decide+kernel
noncomputable def aPN:aJ:=cF Tryz.f413 [78,0x100004c,192,328,0x200000140,320,192]
theorem aFa:aD Go.Proofs.Tryz.prog (fun _=>true) aPN 413=true:=by decide+kernel
noncomputable def aPO:aJ:=cF Tryz.f414 [19,496,1008,1776,3760,16]
theorem aFb:aD Go.Proofs.Tryz.prog (fun _=>true) aPO 414=true:=by decide+kernel
noncomputable def aPP:aJ:=cF Tryz.f415 [113,0x2000071,192,0x8000070,192,192]
theorem aFc:aD Go.Proofs.Tryz.prog (fun _=>true) aPP 415=true:=by decide+kernel
noncomputable def aPQ:aJ:=cF Tryz.f416 [28,60,0x200030,48,16]
theorem aFd:aD Go.Proofs.Tryz.prog (fun _=>true) aPQ 416=true:=by decide+kernel
noncomputable def aPR:aJ:=cF Tryz.f417 [3,16]
theorem aFe:aD Go.Proofs.Tryz.prog (fun _=>true) aPR 417=true:=by decide+kernel
end Go.Proofs.YtclphlgnjkajbaaGreat
