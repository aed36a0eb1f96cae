/- What reaches the sorted list of meetings. Printed by a program. -/
import Derived.Test.YthljmpcakagceaaGreatHQTA
open Int renaming ofNat->v6
open Option renaming some->ww
open Bool renaming false->AC
open Decidable renaming decide->Do
set_option maxRecDepth 100000
namespace Go.Proofs.YthljmpcakagceaaGreat
open Go.Vm
theorem agw:cQ Dw 84 (ru.rows (Arg.agg cO) [.i .i64,.i .i64,.i .i64] [.i .i64,.i .i64,.i .i64,.i .i64] (fun a=>Field.am a) C6):=cQ.rows ZE (fun _=>rfl)
section
variable [LP]
noncomputable def x7 (p0:Field) (p1:Int×Int) (p2:Int×Int):Option ((List (Int×Int×Int×Int))×Int):=
 (vV p0 [p1,p2]).bind fun n0=>
 bif n0 !=0 then
  ww ([],n0)
 else
  (C6 p0.am).bind fun l1=>
  (qf l1 p1).bind fun n2=>
  (qf l1 p2).bind fun n3=>
  bif (((Do (0<=n2))&&(Do (n2<=n3)))&&(Do (n3<=n3)))&&(Do (n3<=(v6 l1.length))) then
   ww ((l1.drop (0+n2.toNat)).take (n3.toNat-n2.toNat),0)
  else
   none
noncomputable def d32:ru:=⟨au.cons (Arg.agg cO) (au.cons (Arg.agg (bR.row gL)) (au.one (Arg.agg (bR.row gL)))),Arg.bS (au.cons (Arg.sl Fs) (au.one (Arg.int .i64))),fun a=>x7 a.1 a.2.1 a.2.2,.uj,AC⟩
theorem agx:cQ Dw 32 d32:=cQ.of ZG (cx:=(qy aF [(83,c83.c),(84,ru.rows (Arg.agg cO) [.i .i64,.i .i64,.i .i64] [.i .i64,.i .i64,.i .i64,.i .i64] (fun a=>Field.am a) C6),(85,c85.c)] [] [] [])) rfl (mi.make ⟨(c83.ok.lift ky),agw,(c85.ok.lift ky),trivial⟩ trivial trivial) (fun a=>by kernel_rfl)
noncomputable def mO (p0:cE) (p1:Int×Int) (p2:Int×Int):Option Bool:=
 (Option.some true).bind fun b0=>
 (uN p0).bind fun b1=>
 bif !b1 then
  ww b0
 else
  (vU p1 p2).bind fun n2=>
  bif n2 !=0 then
   ww b0
  else
   (kD p0.lc.ci p1).bind fun n3=>
   bif Do (0<n3) then
    ww b0
   else
    (kD p1 p2).bind fun n4=>
    bif Do (0<n4) then
     ww b0
    else
     bif !b0 then
      ww b0
     else
      (fW p0 p2).bind fun a5=>
      (fW p0 p1).bind fun a6=>
      bif a5.2.2 !=0 then
       bif b0 then
        ww (a5.2.2==18)
       else
        ww AC
      else
       bif a6.2.2 !=0 then
        bif b0 then
         ww (a5.2.2==18)
        else
         ww AC
       else
        (fW a6.1 p2).bind fun a7=>
        (x7 p0.lc.ii p0.lc.ci p2).bind fun a8=>
        bif a7.2.2 !=0 then
         ww AC
        else
         bif a8.2 !=0 then
          ww AC
         else
          (vZ a5.1 a7.1).bind fun b9=>
          bif !b9 then
           ww AC
          else
           (bP a6.2.1).bind fun l10=>
           bif a7.2.1.isEmpty then
            (iN a5.2.1 l10).bind fun b11=>
            bif !b11 then
             ww AC
            else
             bif Do ((v6 a8.1.length)<(v6 a5.2.1.length)) then
              ww AC
             else
              aB cS (b0,a5.2.1,a8.1,0)
           else
            (bm l10 a7.2.1).bind fun l12=>
            (iN a5.2.1 l12).bind fun b13=>
            bif !b13 then
             ww AC
            else
             bif Do ((v6 a8.1.length)<(v6 a5.2.1.length)) then
              ww AC
             else
              aB cS (b0,a5.2.1,a8.1,0)
noncomputable def d5:ru:=⟨au.cons (Arg.agg hZ) (au.cons (Arg.agg (bR.row gL)) (au.one (Arg.agg (bR.row gL)))),Arg.bool,fun a=>mO a.1 a.2.1 a.2.2,.pure,AC⟩
theorem aj6:cQ Dw 5 d5:=cQ.of SZ (cx:=(qy aF [(10,c10.c),(22,c22.c),(31,c31.c),(23,c23.c),(24,c24.c),(32,d32),(33,c33.c),(34,c34.c),(35,c35.c)] [] [] [])) rfl (mi.make ⟨(c10.ok.lift ky),(c22.ok.lift ky),(c31.ok.lift ky),(c23.ok.lift ky),(c24.ok.lift ky),agx,(c33.ok.lift ky),(c34.ok.lift ky),(c35.ok.lift ky),trivial⟩ trivial trivial) (fun a=>by kernel_rfl)
end
end Go.Proofs.YthljmpcakagceaaGreat
