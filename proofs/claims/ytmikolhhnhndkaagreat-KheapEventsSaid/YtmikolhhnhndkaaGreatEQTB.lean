/- What reaches the sorted list of meetings. Printed by a program. -/
import Derived.Test.YtmikolhhnhndkaaGreatEQTA
open Option renaming some->ut
open Decidable renaming decide->v6
set_option maxRecDepth 100000
namespace Go.Proofs.YtmikolhhnhndkaaGreat
open Go.Vm
theorem adm:cM Cy 39 (qt.rows (Arg.agg dE) [.i .i64,.i .i64,.i .i64] [.i .i64,.i .i64,.i .i64,.i .i64] (fun a=>Field.be a) B9):=cM.rows Wy (fun _=>rfl)
section
variable [LP]
noncomputable def wO (p0:Field) (p1:Int×Int) (p2:Int×Int):Option ((List (Int×Int×Int×Int))×Int):=
 (uN p0 [p1,p2]).bind fun n0=>
 bif n0 !=0 then
  ut ([],n0)
 else
  (B9 p0.be).bind fun l1=>
  (pq l1 p1).bind fun n2=>
  (pq l1 p2).bind fun n3=>
  bif (((v6 (0<=n2))&&(v6 (n2<=n3)))&&(v6 (n3<=n3)))&&(v6 (n3<=(Int.ofNat l1.length))) then
   ut ((l1.drop (0+n2.toNat)).take (n3.toNat-n2.toNat),0)
  else
   none
noncomputable def d12:qt:=⟨ay.cons (Arg.agg dE) (ay.cons (Arg.agg (cj.row gX)) (ay.one (Arg.agg (cj.row gX)))),Arg.bT (ay.cons (Arg.sl Em) (ay.one (Arg.int .i64))),fun a=>wO a.1 a.2.1 a.2.2,.vA,false⟩
theorem adn:cM Cy 12 d12:=cM.of WA (cx:=(qd aF [(38,c38.c),(39,qt.rows (Arg.agg dE) [.i .i64,.i .i64,.i .i64] [.i .i64,.i .i64,.i .i64,.i .i64] (fun a=>Field.be a) B9),(40,c40.c)] [] [] [])) rfl (lL.make ⟨(c38.ok.lift gL),adm,(c40.ok.lift gL),trivial⟩ trivial trivial) (fun a=>by kernel_rfl)
noncomputable def nk (p0:dA) (p1:Int×Int):Option Bool:=
 (Option.some true).bind fun b0=>
 (o9 p0).bind fun b1=>
 bif b1 then
  ut b0
 else
  (zc p0.kw.io).bind fun b2=>
  bif b2 then
   ut b0
  else
   (rZ p0).bind fun n3=>
   bif n3 !=0 then
    ut b0
   else
    (mi p1).bind fun n4=>
    bif n4 !=0 then
     ut b0
    else
     (lf p0.kw.ii p1).bind fun n5=>
     bif v6 (0<n5) then
      ut b0
     else
      (kA p0.kw.io).bind fun b6=>
      bif !b6 then
       ut b0
      else
       bif !b0 then
        ut b0
       else
        (jI p0 p1).bind fun a7=>
        bif a7.2.2 !=0 then
         bif b0 then
          ut (a7.2.2==18)
         else
          ut false
        else
         (wO p0.kw.io p0.kw.ii p1).bind fun a8=>
         bif a8.2 !=0 then
          ut false
         else
          (lO a7.1.kw.io p0.kw.io).bind fun b9=>
          bif !b9 then
           ut false
          else
           aD eD (b0,a7.2.1,a8.1,true,1,p1.1,p1.2,a7.1.kw.ii.1,a7.1.kw.ii.2,a7.1.kw.io.be,a7.1.kw.af.aM,a7.1.kw.af.ci,a7.1.kw.aa.ai.aq,a7.1.kw.aa.ai.bi,a7.1.kw.aa.ai.bv,a7.1.kw.aa.ce,a7.1.kw.aa.ao,a7.1.kw.jp,a7.1.ce)
noncomputable def d3:qt:=⟨ay.cons (Arg.agg kL) (ay.one (Arg.agg (cj.row gX))),Arg.bool,fun a=>nk a.1 a.2,.pure,false⟩
theorem agN:cM Cy 3 d3:=cM.of Rs (cx:=(qd aF [(4,c4.c),(5,c5.c),(6,c6.c),(7,c7.c),(8,c8.c),(9,c9.c),(10,c10.c),(11,c11.c),(12,d12),(13,c13.c),(14,c14.c),(15,c15.c)] [] [] [])) rfl (lL.make ⟨(c4.ok.lift gL),(c5.ok.lift gL),(c6.ok.lift gL),(c7.ok.lift gL),(c8.ok.lift gL),(c9.ok.lift gL),(c10.ok.lift gL),(c11.ok.lift gL),adn,(c13.ok.lift gL),(c14.ok.lift gL),(c15.ok.lift gL),trivial⟩ trivial trivial) (fun a=>by kernel_rfl)
end
end Go.Proofs.YtmikolhhnhndkaaGreat
