/- What reaches the sorted list of meetings. Printed by a program. -/
import Derived.Test.YtcljjehjppgijaaGreatWQTA
open Int renaming ofNat->lw
open Option renaming some->pp
open Bool renaming false->ut
open Decidable renaming decide->v6
set_option maxRecDepth 100000
namespace Go.Proofs.YtcljjehjppgijaaGreat
open Go.Vm
theorem agT:cE DR 75 (ry.rows (Arg.agg cQ) [.i .i64,.i .i64,.i .i64] [.i .i64,.i .i64,.i .i64,.i .i64] (fun a=>Field.am a) Ds):=cE.rows aan (fun _=>rfl)
section
variable [LP]
noncomputable def yu (p0:Field) (p1:Int×Int) (p2:Int×Int):Option ((List (Int×Int×Int×Int))×Int):=
 (wH p0 [p1,p2]).bind fun n0=>
 bif n0 !=0 then
  pp ([],n0)
 else
  (Ds p0.am).bind fun l1=>
  (qz l1 p1).bind fun n2=>
  (qz l1 p2).bind fun n3=>
  bif (((v6 (0<=n2))&&(v6 (n2<=n3)))&&(v6 (n3<=n3)))&&(v6 (n3<=(lw l1.length))) then
   pp ((l1.drop (0+n2.toNat)).take (n3.toNat-n2.toNat),0)
  else
   none
noncomputable def d25:ry:=⟨au.cons (Arg.agg cQ) (au.cons (Arg.agg (cb.row gW)) (au.one (Arg.agg (cb.row gW)))),Arg.bN (au.cons (Arg.sl FM) (au.one (Arg.int .i64))),fun a=>yu a.1 a.2.1 a.2.2,.tp,ut⟩
theorem agU:cE DR 25 d25:=cE.of aap (cx:=(oU aF [(74,c74.c),(75,ry.rows (Arg.agg cQ) [.i .i64,.i .i64,.i .i64] [.i .i64,.i .i64,.i .i64,.i .i64] (fun a=>Field.am a) Ds),(76,c76.c)] [] [] [])) rfl (mz.make ⟨(c74.ok.lift kD),agT,(c76.ok.lift kD),trivial⟩ trivial trivial) (fun a=>by kernel_rfl)
noncomputable def na (p0:cC) (p1:Int×Int) (p2:Int×Int):Option Bool:=
 (Option.some true).bind fun b0=>
 (vd p0).bind fun b1=>
 bif !b1 then
  pp b0
 else
  (wG p1 p2).bind fun n2=>
  bif n2 !=0 then
   pp b0
  else
   (kK p0.jp.ci p1).bind fun n3=>
   bif v6 (0<n3) then
    pp b0
   else
    (kK p1 p2).bind fun n4=>
    bif v6 (0<n4) then
     pp b0
    else
     bif !b0 then
      pp b0
     else
      (fX p0 p2).bind fun a5=>
      (fX p0 p1).bind fun a6=>
      bif a5.2.2 !=0 then
       bif b0 then
        pp (a5.2.2==18)
       else
        pp ut
      else
       bif a6.2.2 !=0 then
        bif b0 then
         pp (a5.2.2==18)
        else
         pp ut
       else
        (fX a6.1 p2).bind fun a7=>
        (yu p0.jp.ii p0.jp.ci p2).bind fun a8=>
        bif a7.2.2 !=0 then
         pp ut
        else
         bif a8.2 !=0 then
          pp ut
         else
          (wL a5.1 a7.1).bind fun b9=>
          bif !b9 then
           pp ut
          else
           (bO a6.2.1).bind fun l10=>
           bif a7.2.1.isEmpty then
            (iN a5.2.1 l10).bind fun b11=>
            bif !b11 then
             pp ut
            else
             bif v6 ((lw a8.1.length)<(lw a5.2.1.length)) then
              pp ut
             else
              aB kU (b0,a5.2.1,a8.1,0)
           else
            (bm l10 a7.2.1).bind fun l12=>
            (iN a5.2.1 l12).bind fun b13=>
            bif !b13 then
             pp ut
            else
             bif v6 ((lw a8.1.length)<(lw a5.2.1.length)) then
              pp ut
             else
              aB kU (b0,a5.2.1,a8.1,0)
noncomputable def d4:ry:=⟨au.cons (Arg.agg ig) (au.cons (Arg.agg (cb.row gW)) (au.one (Arg.agg (cb.row gW)))),Arg.bool,fun a=>na a.1 a.2.1 a.2.2,.pure,ut⟩
theorem ako:cE DR 4 d4:=cE.of Ty (cx:=(oU aF [(20,c20.c),(22,c22.c),(23,c23.c),(24,c24.c),(14,c14.c),(25,d25),(26,c26.c),(27,c27.c),(28,c28.c)] [] [] [])) rfl (mz.make ⟨(c20.ok.lift kD),(c22.ok.lift kD),(c23.ok.lift kD),(c24.ok.lift kD),(c14.ok.lift kD),agU,(c26.ok.lift kD),(c27.ok.lift kD),(c28.ok.lift kD),trivial⟩ trivial trivial) (fun a=>by kernel_rfl)
end
end Go.Proofs.YtcljjehjppgijaaGreat
