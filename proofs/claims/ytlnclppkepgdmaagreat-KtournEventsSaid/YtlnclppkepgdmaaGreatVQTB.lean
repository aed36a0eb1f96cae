/- What reaches the sorted list of meetings. Printed by a program. -/
import Derived.Test.YtlnclppkepgdmaaGreatVQTA
open Int renaming ofNat->pp
open Option renaming some->rc
open Bool renaming false->sp
open Decidable renaming decide->ut
set_option maxRecDepth 100000
namespace Go.Proofs.YtlnclppkepgdmaaGreat
open Go.Vm
theorem abF:cN EA 100 (rA.rows (Arg.agg cC) [.i .i64,.i .i64,.i .i64] [.i .i64,.i .i64,.i .i64,.i .i64] (fun a=>Field.am a) D9):=cN.rows UN (fun _=>rfl)
section
variable [LP]
noncomputable def yP (p0:Field) (p1:Int×Int) (p2:Int×Int):Option ((List (Int×Int×Int×Int))×Int):=
 (wV p0 [p1,p2]).bind fun n0=>
 bif n0 !=0 then
  rc ([],n0)
 else
  (D9 p0.am).bind fun l1=>
  (qL l1 p1).bind fun n2=>
  (qL l1 p2).bind fun n3=>
  bif (((ut (0<=n2))&&(ut (n2<=n3)))&&(ut (n3<=n3)))&&(ut (n3<=(pp l1.length))) then
   rc ((l1.drop (0+n2.toNat)).take (n3.toNat-n2.toNat),0)
  else
   none
noncomputable def d43:rA:=⟨ar.cons (Arg.agg cC) (ar.cons (Arg.agg (bZ.row gS)) (ar.one (Arg.agg (bZ.row gS)))),Arg.bY (ar.cons (Arg.sl Gu) (ar.one (Arg.int .i64))),fun a=>yP a.1 a.2.1 a.2.2,.u4,sp⟩
theorem aiX:cN EA 43 d43:=cN.of abE (cx:=(oh aD [(99,c99.c),(100,rA.rows (Arg.agg cC) [.i .i64,.i .i64,.i .i64] [.i .i64,.i .i64,.i .i64,.i .i64] (fun a=>Field.am a) D9),(101,ami.c)] [] [] [])) rfl (lq.make ⟨(c99.ok.lift kG),abF,(ami.ok.lift kG),trivial⟩ trivial trivial) (fun a=>by kernel_rfl)
noncomputable def nh (p0:cV) (p1:Int×Int) (p2:Int×Int):Option Bool:=
 (Option.some true).bind fun b0=>
 (vE p0).bind fun b1=>
 bif !b1 then
  rc b0
 else
  (wU p1 p2).bind fun n2=>
  bif n2 !=0 then
   rc b0
  else
   (kL p0.jp.ci p1).bind fun n3=>
   bif ut (0<n3) then
    rc b0
   else
    (kL p1 p2).bind fun n4=>
    bif ut (0<n4) then
     rc b0
    else
     bif !b0 then
      rc b0
     else
      (fZ p0 p2).bind fun a5=>
      (fZ p0 p1).bind fun a6=>
      bif a5.2.2 !=0 then
       bif b0 then
        rc (a5.2.2==18)
       else
        rc sp
      else
       bif a6.2.2 !=0 then
        bif b0 then
         rc (a5.2.2==18)
        else
         rc sp
       else
        (fZ a6.1 p2).bind fun a7=>
        (yP p0.jp.ii p0.jp.ci p2).bind fun a8=>
        bif a7.2.2 !=0 then
         rc sp
        else
         bif a8.2 !=0 then
          rc sp
         else
          (wZ a5.1 a7.1).bind fun b9=>
          bif !b9 then
           rc sp
          else
           (bN a6.2.1).bind fun l10=>
           bif a7.2.1.isEmpty then
            (iT a5.2.1 l10).bind fun b11=>
            bif !b11 then
             rc sp
            else
             bif ut ((pp a8.1.length)<(pp a5.2.1.length)) then
              rc sp
             else
              aB kV (b0,a5.2.1,a8.1,0)
           else
            (bK l10 a7.2.1).bind fun l12=>
            (iT a5.2.1 l12).bind fun b13=>
            bif !b13 then
             rc sp
            else
             bif ut ((pp a8.1.length)<(pp a5.2.1.length)) then
              rc sp
             else
              aB kV (b0,a5.2.1,a8.1,0)
noncomputable def d8:rA:=⟨ar.cons (Arg.agg iv) (ar.cons (Arg.agg (bZ.row gS)) (ar.one (Arg.agg (bZ.row gS)))),Arg.bool,fun a=>nh a.1 a.2.1 a.2.2,.pure,sp⟩
theorem amr:cN EA 8 d8:=cN.of UO (cx:=(oh aD [(28,c28.c),(35,c35.c),(30,c30.c),(31,c31.c),(12,c12.c),(43,d43),(14,c14.c),(15,c15.c),(44,c44.c)] [] [] [])) rfl (lq.make ⟨(c28.ok.lift kG),(c35.ok.lift kG),(c30.ok.lift kG),(c31.ok.lift kG),(c12.ok.lift kG),aiX,(c14.ok.lift kG),(c15.ok.lift kG),(c44.ok.lift kG),trivial⟩ trivial trivial) (fun a=>by kernel_rfl)
end
end Go.Proofs.YtlnclppkepgdmaaGreat
