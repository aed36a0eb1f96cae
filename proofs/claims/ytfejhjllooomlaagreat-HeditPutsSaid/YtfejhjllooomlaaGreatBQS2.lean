/- Plain functions for what the functions of the seat compute. Printed by a program. -/
import Derived.Test.YtfejhjllooomlaaGreatBVm3
import Derived.Test.YtfejhjllooomlaaGreatBQXT
import Derived.Test.YtfejhjllooomlaaGreatBQS1
set_option maxRecDepth 100000
namespace Go.Proofs.YtfejhjllooomlaaGreat
open Go.Vm
noncomputable section
section
variable [LP]
def tB (p0:aG) (p1:Int×Int) (p2:Int×Int):Option aG:=
 (lY p0).bind fun r0=>
 (aK r0.where_ p1.1).bind fun n1=>
 (aK r0.heap n1).bind fun a2=>
 (rC (n1,r0.slots.uses,r0.slots.used,r0.slots.free,bM r0.heap n1 (p2.1,p2.2,a2.2.2),r0.where_)).bind fun a3=>
 (oA a3).bind fun a4=>
 some (aG.mk (aR.mk a4.1 a4.2.1 a4.2.2.1) a4.2.2.2.1 a4.2.2.2.2)
def aQX:bL:=⟨aD.cons (aN.agg dD) (aD.cons (aN.agg (cO.row kM)) (aD.one (aN.agg (cO.row kM)))),aN.agg dD,fun a=>tB a.1 a.2.1 a.2.2,.frz,false⟩
theorem aIN:aM tab 250 aQX:=aM.of aG7 (cx:=(pG aH [(137,aAd),(137,OI)] [(282,QJ),(281,VW),(282,VX),(281,aCg)] [] [])) rfl (mK.make ⟨GW,CU,trivial⟩ ⟨IP,OL,OM,aAi,trivial⟩ trivial) (fun a=>by kernel_rfl)
def gS (p0:aR):Option Bool:=
 bif decide (0<(Int.ofNat p0.free.length)) then
  (aK p0.free (aA .i64 ((Int.ofNat p0.free.length) -1))).bind fun n0=>
  (aK p0.uses n0).bind fun n1=>
  some (decide (n1<1000000))
 else
  some false
def aOB:bL:=⟨aD.one (aN.agg gL),aN.bool,fun a=>gS a,.pure,false⟩
theorem YQ:aM tab 251 aOB:=Oc aG8 rfl aH [] trivial fun a=>by kernel_rfl
def yA (p0:aR):Option (aR×(Int×Int)):=
 (nJ p0).bind fun r0=>
 (aK r0.free (aA .i64 ((Int.ofNat r0.free.length) -1))).bind fun n1=>
 (jO r0.free 0 (aA .i64 ((Int.ofNat r0.free.length) -1))).bind fun _=>
 (aK r0.uses n1).bind fun n3=>
 (aK r0.uses n1).bind fun _=>
 (aK r0.used n1).bind fun _=>
 (aK (bM r0.uses n1 (aA .i64 (n3+1))) n1).bind fun n6=>
 some (aR.mk (bM r0.uses n1 (aA .i64 (n3+1))) (bM r0.used n1 true) (r0.free.take ((aA .i64 ((Int.ofNat r0.free.length) -1)).toNat)),n1,n6)
def aQY:bL:=⟨aD.one (aN.agg gL),aN.tup (aD.cons (aN.agg gL) (aD.one (aN.agg (cO.row kM)))),fun a=>yA a,.frz,false⟩
theorem aIO:aM tab 283 aQY:=Oc aHn rfl aH [(195,aBT),(195,SQ)] ⟨KD,GV,trivial⟩ fun a=>by kernel_rfl
def oB (a:((List Int)×(List Bool)×(List Int)×Int×Int×iM×(List Int))):Option NK:=
 (aK a.2.2.2.2.2.1 a.2.2.2.2.1).bind fun a0=>
 (aK a.2.2.2.2.2.1 a.2.2.2.1).bind fun a1=>
 (aK a.2.2.2.2.2.1 a.2.2.2.1).bind fun _=>
 (aK (bM a.2.2.2.2.2.1 a.2.2.2.1 a0) a.2.2.2.2.1).bind fun _=>
 (aK (bM (bM a.2.2.2.2.2.1 a.2.2.2.1 a0) a.2.2.2.2.1 a1) a.2.2.2.1).bind fun a4=>
 (aK (bM (bM a.2.2.2.2.2.1 a.2.2.2.1 a0) a.2.2.2.2.1 a1) a.2.2.2.2.1).bind fun a5=>
 (aK a.2.2.2.2.2.2 a4.2.2.2.1).bind fun _=>
 (aK (bM a.2.2.2.2.2.2 a4.2.2.2.1 a.2.2.2.1) a5.2.2.2.1).bind fun _=>
 bif ((bM (bM a.2.2.2.2.2.1 a.2.2.2.1 a0) a.2.2.2.2.1 a1).length)==a.2.2.2.2.2.1.length then
  bif ((bM (bM a.2.2.2.2.2.2 a4.2.2.2.1 a.2.2.2.1) a5.2.2.2.1 a.2.2.2.2.1).length)==a.2.2.2.2.2.2.length then
   some (bM (bM a.2.2.2.2.2.1 a.2.2.2.1 a0) a.2.2.2.2.1 a1,bM (bM a.2.2.2.2.2.2 a4.2.2.2.1 a.2.2.2.1) a5.2.2.2.1 a.2.2.2.2.1)
  else
   none
 else
  none
def aCh:eH:=⟨[.l [.i .i64],.l [.b],.l [.i .i64],.i,.i,.l [.i .i64,.i .i64,.i .i64,.i .i64,.i .i64],.l [.i .i64]],[.agg [.sl [.i .i64] [],.sl [.b] [],.sl [.i .i64] [],.own 0 false,.own 1 false],.int .i64 0,.int .i64 0],[.arr [.i .i64,.i .i64,.i .i64,.i .i64,.i .i64] [],.arr [.i .i64] []],[.l [.i .i64,.i .i64,.i .i64,.i .i64,.i .i64],.l [.i .i64]],.tup [],[.arr [.i .i64,.i .i64,.i .i64,.i .i64,.i .i64] [],.arr [.i .i64] []],fun a=>oB a⟩
theorem aAj:nB tab 279 aCh:=nB.of P1 (wd:=false) (cx:=(pG aH [] [] [] [])) (mK.make trivial trivial trivial) (fun a=>by kernel_rfl)
abbrev aQZ:=(List Int)×(List Bool)×(List Int)×Int×iM×(List Int)
abbrev aQ0:=Int×iM×(List Int)×(List Int)×(List Bool)×(List Int)
def iD (c0:aQZ) (s:aQ0):Option (cA aQ0 aHB):=
 bif decide (0<s.1) then
  (aK s.2.1 s.1).bind fun a0=>
  (aK s.2.1 (aA .i64 (Int.tdiv (aA .i64 (s.1-1)) 2))).bind fun a1=>
  (eN a0 a1).bind fun b2=>
  bif b2 then
   (oB (s.2.2.2.1,s.2.2.2.2.1,s.2.2.2.2.2,s.1,aA .i64 (Int.tdiv (aA .i64 (s.1-1)) 2),s.2.1,s.2.2.1)).bind fun a3=>
   some (.next (aA .i64 (Int.tdiv (aA .i64 (s.1-1)) 2),a3.1,a3.2,s.2.2.2))
  else
   bif s.2.1.length==c0.2.2.2.2.1.length then
    bif s.2.2.1.length==c0.2.2.2.2.2.length then
     some (.done (s.1,s.2.1,s.2.2.1))
    else
     none
   else
    none
 else
  bif s.2.1.length==c0.2.2.2.2.1.length then
   bif s.2.2.1.length==c0.2.2.2.2.2.length then
    some (.done (s.1,s.2.1,s.2.2.1))
   else
    none
  else
   none
def rD (a:aQZ):Option aHB:=
 aJ (iD a) (a.2.2.2.1,a.2.2.2.2.1,a.2.2.2.2.2,a.1,a.2.1,a.2.2.1)
def aCi:eH:=⟨[.l [.i .i64],.l [.b],.l [.i .i64],.i,.l [.i .i64,.i .i64,.i .i64,.i .i64,.i .i64],.l [.i .i64]],[.agg [.sl [.i .i64] [],.sl [.b] [],.sl [.i .i64] [],.own 0 false,.own 1 false],.int .i64 0],[.arr [.i .i64,.i .i64,.i .i64,.i .i64,.i .i64] [],.arr [.i .i64] []],[.i,.l [.i .i64,.i .i64,.i .i64,.i .i64,.i .i64],.l [.i .i64]],.int .i64 0,[.arr [.i .i64,.i .i64,.i .i64,.i .i64,.i .i64] [],.arr [.i .i64] []],fun a=>rD a⟩
theorem aAk:nB tab 282 aCi:=nB.of P2 (wd:=true) (cx:=(pG aH [(158,VS)] [(279,FN),(279,FO),(279,aCh)] [] [])) (mK.make ⟨DX,trivial⟩ ⟨vX,vY,aAj,trivial⟩ trivial) (fun a=>by kernel_rfl)
def eU (p0:aG) (p1:Int×Int) (p2:Int):Option (aG×(Int×Int)):=
 (lY p0).bind fun r0=>
 (yA r0.slots).bind fun a1=>
 (bO r0.heap [(p1.1,p1.2,p2,a1.2)]).bind fun l2=>
 (aK r0.where_ a1.2.1).bind fun _=>
 (rD (a1.1.uses,a1.1.used,a1.1.free,aA .i64 ((Int.ofNat l2.length) -1),l2,bM r0.where_ a1.2.1 (aA .i64 ((Int.ofNat l2.length) -1)))).bind fun a4=>
 some (aG.mk a1.1 a4.2.1 a4.2.2,a1.2)
def aOC:bL:=⟨aD.cons (aN.agg dD) (aD.cons (aN.agg (cO.row kM)) (aD.one (aN.int .i64))),aN.tup (aD.cons (aN.agg dD) (aD.one (aN.agg (cO.row kM)))),fun a=>eU a.1 a.2.1 a.2.2,.frz,false⟩
theorem YR:aM tab 252 aOC:=aM.of aG9 (cx:=(pG aH [(137,aAd),(137,OI),(283,aQY)] [(282,QJ),(282,VX),(282,aCi)] [] [])) rfl (mK.make ⟨GW,CU,aIO,trivial⟩ ⟨IP,OM,aAk,trivial⟩ trivial) (fun a=>by kernel_rfl)
abbrev Zt6:=Int×Int×Int×bI×Int×bI×(List Int)×(List Bool)×(List Int)×iM×(List Int)×bI×bI×Int×Int×Int×Int×Int×bI×Int×bI×(List Int)×(List Bool)×(List Int)×iM×(List Int)×bI
def cN (s:Zt6):Option (cA Zt6 (aP×Int)):=
 match s with
 |(a,b,d,e,f,g,h,i,j,k,l,m,n,o,q,r,t,u,v,w,x,y,z,A,B,C,D)=>
  bif decide (a<(Int.ofNat g.length)) then
   (aK g a).bind fun a0=>
   (pZ (aP.mk (b,d) (Field.mk e) (aU.mk f g) (aG.mk (aR.mk h i j) k l) m) a0.1).bind fun n1=>
   (sC (Field.mk n) a0.2 (b,d)).bind fun a2=>
   bif a2.2 then
    bif decide (0<=n1) then
     (aK m n1).bind fun a3=>
     (tB (aG.mk (aR.mk y z A) B C) a3.2 a2.1).bind fun r4=>
     (aK m n1).bind fun a5=>
     (bO D [a5]).bind fun l6=>
     bif !a2.2 then
      bif decide (0<=n1) then
       (aK m n1).bind fun a7=>
       (kD r4 a7.2).bind fun r8=>
       bif !a2.2 then
        some (.next (aA .i64 (a+1),b,d,e,f,g,h,i,j,k,l,m,n,o,q,r,t,u,v,w,x,r8.slots.uses,r8.slots.used,r8.slots.free,r8.heap,r8.where_,l6))
       else
        bif decide (0<=n1) then
         some (.next (aA .i64 (a+1),b,d,e,f,g,h,i,j,k,l,m,n,o,q,r,t,u,v,w,x,r8.slots.uses,r8.slots.used,r8.slots.free,r8.heap,r8.where_,l6))
        else
         (gS r8.slots).bind fun b9=>
         bif !b9 then
          some (.done (aP.mk (0,0) (Field.mk []) (aU.mk 0 []) (aG.mk (aR.mk [] [] []) [] []) [],18))
         else
          (eU r8 a2.1 a0.1).bind fun a10=>
          (bO l6 [(a0.1,a10.2)]).bind fun l11=>
          some (.next (aA .i64 (a+1),b,d,e,f,g,h,i,j,k,l,m,n,o,q,r,t,u,v,w,x,a10.1.slots.uses,a10.1.slots.used,a10.1.slots.free,a10.1.heap,a10.1.where_,l11))
      else
       bif !a2.2 then
        some (.next (aA .i64 (a+1),b,d,e,f,g,h,i,j,k,l,m,n,o,q,r,t,u,v,w,x,r4.slots.uses,r4.slots.used,r4.slots.free,r4.heap,r4.where_,l6))
       else
        bif decide (0<=n1) then
         some (.next (aA .i64 (a+1),b,d,e,f,g,h,i,j,k,l,m,n,o,q,r,t,u,v,w,x,r4.slots.uses,r4.slots.used,r4.slots.free,r4.heap,r4.where_,l6))
        else
         (gS r4.slots).bind fun b12=>
         bif !b12 then
          some (.done (aP.mk (0,0) (Field.mk []) (aU.mk 0 []) (aG.mk (aR.mk [] [] []) [] []) [],18))
         else
          (eU r4 a2.1 a0.1).bind fun a13=>
          (bO l6 [(a0.1,a13.2)]).bind fun l14=>
          some (.next (aA .i64 (a+1),b,d,e,f,g,h,i,j,k,l,m,n,o,q,r,t,u,v,w,x,a13.1.slots.uses,a13.1.slots.used,a13.1.slots.free,a13.1.heap,a13.1.where_,l14))
     else
      bif !a2.2 then
       some (.next (aA .i64 (a+1),b,d,e,f,g,h,i,j,k,l,m,n,o,q,r,t,u,v,w,x,r4.slots.uses,r4.slots.used,r4.slots.free,r4.heap,r4.where_,l6))
      else
       bif decide (0<=n1) then
        some (.next (aA .i64 (a+1),b,d,e,f,g,h,i,j,k,l,m,n,o,q,r,t,u,v,w,x,r4.slots.uses,r4.slots.used,r4.slots.free,r4.heap,r4.where_,l6))
       else
        (gS r4.slots).bind fun b15=>
        bif !b15 then
         some (.done (aP.mk (0,0) (Field.mk []) (aU.mk 0 []) (aG.mk (aR.mk [] [] []) [] []) [],18))
        else
         (eU r4 a2.1 a0.1).bind fun a16=>
         (bO l6 [(a0.1,a16.2)]).bind fun l17=>
         some (.next (aA .i64 (a+1),b,d,e,f,g,h,i,j,k,l,m,n,o,q,r,t,u,v,w,x,a16.1.slots.uses,a16.1.slots.used,a16.1.slots.free,a16.1.heap,a16.1.where_,l17))
    else
     bif !a2.2 then
      bif decide (0<=n1) then
       (aK m n1).bind fun a18=>
       (kD (aG.mk (aR.mk y z A) B C) a18.2).bind fun r19=>
       bif !a2.2 then
        some (.next (aA .i64 (a+1),b,d,e,f,g,h,i,j,k,l,m,n,o,q,r,t,u,v,w,x,r19.slots.uses,r19.slots.used,r19.slots.free,r19.heap,r19.where_,D))
       else
        bif decide (0<=n1) then
         some (.next (aA .i64 (a+1),b,d,e,f,g,h,i,j,k,l,m,n,o,q,r,t,u,v,w,x,r19.slots.uses,r19.slots.used,r19.slots.free,r19.heap,r19.where_,D))
        else
         (gS r19.slots).bind fun b20=>
         bif !b20 then
          some (.done (aP.mk (0,0) (Field.mk []) (aU.mk 0 []) (aG.mk (aR.mk [] [] []) [] []) [],18))
         else
          (eU r19 a2.1 a0.1).bind fun a21=>
          (bO D [(a0.1,a21.2)]).bind fun l22=>
          some (.next (aA .i64 (a+1),b,d,e,f,g,h,i,j,k,l,m,n,o,q,r,t,u,v,w,x,a21.1.slots.uses,a21.1.slots.used,a21.1.slots.free,a21.1.heap,a21.1.where_,l22))
      else
       bif !a2.2 then
        some (.next (aA .i64 (a+1),(b,d,e,f,g,h,i,j,k,l,m,n,o,q,r,t,u,v,w,x,y,z,A,B,C,D)))
       else
        bif decide (0<=n1) then
         some (.next (aA .i64 (a+1),(b,d,e,f,g,h,i,j,k,l,m,n,o,q,r,t,u,v,w,x,y,z,A,B,C,D)))
        else
         (gS (aR.mk y z A)).bind fun b23=>
         bif !b23 then
          some (.done (aP.mk (0,0) (Field.mk []) (aU.mk 0 []) (aG.mk (aR.mk [] [] []) [] []) [],18))
         else
          (eU (aG.mk (aR.mk y z A) B C) a2.1 a0.1).bind fun a24=>
          (bO D [(a0.1,a24.2)]).bind fun l25=>
          some (.next (aA .i64 (a+1),b,d,e,f,g,h,i,j,k,l,m,n,o,q,r,t,u,v,w,x,a24.1.slots.uses,a24.1.slots.used,a24.1.slots.free,a24.1.heap,a24.1.where_,l25))
     else
      bif !a2.2 then
       some (.next (aA .i64 (a+1),(b,d,e,f,g,h,i,j,k,l,m,n,o,q,r,t,u,v,w,x,y,z,A,B,C,D)))
      else
       bif decide (0<=n1) then
        some (.next (aA .i64 (a+1),(b,d,e,f,g,h,i,j,k,l,m,n,o,q,r,t,u,v,w,x,y,z,A,B,C,D)))
       else
        (gS (aR.mk y z A)).bind fun b26=>
        bif !b26 then
         some (.done (aP.mk (0,0) (Field.mk []) (aU.mk 0 []) (aG.mk (aR.mk [] [] []) [] []) [],18))
        else
         (eU (aG.mk (aR.mk y z A) B C) a2.1 a0.1).bind fun a27=>
         (bO D [(a0.1,a27.2)]).bind fun l28=>
         some (.next (aA .i64 (a+1),b,d,e,f,g,h,i,j,k,l,m,n,o,q,r,t,u,v,w,x,a27.1.slots.uses,a27.1.slots.used,a27.1.slots.free,a27.1.heap,a27.1.where_,l28))
   else
    bif !a2.2 then
     bif decide (0<=n1) then
      (aK m n1).bind fun a29=>
      (kD (aG.mk (aR.mk y z A) B C) a29.2).bind fun r30=>
      bif !a2.2 then
       some (.next (aA .i64 (a+1),b,d,e,f,g,h,i,j,k,l,m,n,o,q,r,t,u,v,w,x,r30.slots.uses,r30.slots.used,r30.slots.free,r30.heap,r30.where_,D))
      else
       bif decide (0<=n1) then
        some (.next (aA .i64 (a+1),b,d,e,f,g,h,i,j,k,l,m,n,o,q,r,t,u,v,w,x,r30.slots.uses,r30.slots.used,r30.slots.free,r30.heap,r30.where_,D))
       else
        (gS r30.slots).bind fun b31=>
        bif !b31 then
         some (.done (aP.mk (0,0) (Field.mk []) (aU.mk 0 []) (aG.mk (aR.mk [] [] []) [] []) [],18))
        else
         (eU r30 a2.1 a0.1).bind fun a32=>
         (bO D [(a0.1,a32.2)]).bind fun l33=>
         some (.next (aA .i64 (a+1),b,d,e,f,g,h,i,j,k,l,m,n,o,q,r,t,u,v,w,x,a32.1.slots.uses,a32.1.slots.used,a32.1.slots.free,a32.1.heap,a32.1.where_,l33))
     else
      bif !a2.2 then
       some (.next (aA .i64 (a+1),(b,d,e,f,g,h,i,j,k,l,m,n,o,q,r,t,u,v,w,x,y,z,A,B,C,D)))
      else
       bif decide (0<=n1) then
        some (.next (aA .i64 (a+1),(b,d,e,f,g,h,i,j,k,l,m,n,o,q,r,t,u,v,w,x,y,z,A,B,C,D)))
       else
        (gS (aR.mk y z A)).bind fun b34=>
        bif !b34 then
         some (.done (aP.mk (0,0) (Field.mk []) (aU.mk 0 []) (aG.mk (aR.mk [] [] []) [] []) [],18))
        else
         (eU (aG.mk (aR.mk y z A) B C) a2.1 a0.1).bind fun a35=>
         (bO D [(a0.1,a35.2)]).bind fun l36=>
         some (.next (aA .i64 (a+1),b,d,e,f,g,h,i,j,k,l,m,n,o,q,r,t,u,v,w,x,a35.1.slots.uses,a35.1.slots.used,a35.1.slots.free,a35.1.heap,a35.1.where_,l36))
    else
     bif !a2.2 then
      some (.next (aA .i64 (a+1),(b,d,e,f,g,h,i,j,k,l,m,n,o,q,r,t,u,v,w,x,y,z,A,B,C,D)))
     else
      bif decide (0<=n1) then
       some (.next (aA .i64 (a+1),(b,d,e,f,g,h,i,j,k,l,m,n,o,q,r,t,u,v,w,x,y,z,A,B,C,D)))
      else
       (gS (aR.mk y z A)).bind fun b37=>
       bif !b37 then
        some (.done (aP.mk (0,0) (Field.mk []) (aU.mk 0 []) (aG.mk (aR.mk [] [] []) [] []) [],18))
       else
        (eU (aG.mk (aR.mk y z A) B C) a2.1 a0.1).bind fun a38=>
        (bO D [(a0.1,a38.2)]).bind fun l39=>
        some (.next (aA .i64 (a+1),b,d,e,f,g,h,i,j,k,l,m,n,o,q,r,t,u,v,w,x,a38.1.slots.uses,a38.1.slots.used,a38.1.slots.free,a38.1.heap,a38.1.where_,l39))
  else
   some (.done (aP.mk (t,u) (Field.mk v) (aU.mk w x) (aG.mk (aR.mk y z A) B C) D,0))
def mU (p0:aP) (p1:Field):Option (aP×Int):=
 (jD p0).bind fun r0=>
 (lX p1).bind fun r1=>
 aJ cN (0,p0.now.1,p0.now.2,p0.field.points,p0.certs.next_,p0.certs.list,p0.agenda.slots.uses,p0.agenda.slots.used,p0.agenda.slots.free,p0.agenda.heap,p0.agenda.where_,p0.due,p1.points,0,0,0,r0.now.1,r0.now.2,r1.points,r0.certs.next_,r0.certs.list,r0.agenda.slots.uses,r0.agenda.slots.used,r0.agenda.slots.free,r0.agenda.heap,r0.agenda.where_,[])
def aQ1:bL:=⟨aD.cons (aN.agg bU) (aD.one (aN.agg cB)),aN.tup (aD.cons (aN.agg bU) (aD.one (aN.int .i64))),fun a=>mU a.1 a.2,.frz,false⟩
theorem aIP:aM tab 198 aQ1:=Oc aGG rfl aH [(77,c77),(77,VK),(86,c86),(86,aBS),(248,aOz),(99,c99),(250,aQX),(249,aOA),(251,aOB),(252,aOC)] ⟨IJ,DS,P4,KC,YO,VU,aIN,YP,YQ,YR,trivial⟩ fun a=>by kernel_rfl
def D0 (p0:aU) (p1:Int×Int):Option (aU×Int×Int):=
 (uG p0).bind fun n0=>
 bif n0 !=0 then
  some (aU.mk 0 [],0,8)
 else
  (wQ p1).bind fun b1=>
  bif !b1 then
   some (aU.mk 0 [],0,8)
  else
   (vW p0 p1).bind fun b2=>
   bif b2 then
    some (aU.mk 0 [],0,14)
   else
    bif (Int.ofNat p0.list.length)==200 then
     some (aU.mk 0 [],0,18)
    else
     bif p0.next_==1000000 then
      some (aU.mk 0 [],0,18)
     else
      (pI p0).bind fun r3=>
      (bO r3.list [(p0.next_,p1)]).bind fun l4=>
      some (aU.mk (aA .i64 (r3.next_+1)) l4,p0.next_,0)
def aQ2:bL:=⟨aD.cons (aN.agg gT) (aD.one (aN.agg (cO.row kM))),aN.tup (aD.cons (aN.agg gT) (aD.cons (aN.int .i64) (aD.one (aN.int .i64)))),fun a=>D0 a.1 a.2,.frz,false⟩
theorem aIQ:aM tab 253 aQ2:=Oc aHa rfl aH [(96,c96),(155,aOo),(101,aIJ),(136,aHF),(136,X7)] ⟨aB7,YK,QI,P5,ME,trivial⟩ fun a=>by kernel_rfl
def lS (p0:aP) (p1:Int×Int):Option (aP×Int×Int):=
 (D0 p0.certs p1).bind fun a0=>
 bif a0.2.2 !=0 then
  some (aP.mk (0,0) (Field.mk []) (aU.mk 0 []) (aG.mk (aR.mk [] [] []) [] []) [],0,a0.2.2)
 else
  (jD p0).bind fun r1=>
  (sC p0.field p1 p0.now).bind fun a2=>
  bif !a2.2 then
   some (aP.mk r1.now r1.field a0.1 r1.agenda r1.due,a0.2.1,0)
  else
   (gS p0.agenda.slots).bind fun b3=>
   bif !b3 then
    some (aP.mk (0,0) (Field.mk []) (aU.mk 0 []) (aG.mk (aR.mk [] [] []) [] []) [],0,18)
   else
    (eU p0.agenda a2.1 a0.2.1).bind fun a4=>
    (bO r1.due [(a0.2.1,a4.2)]).bind fun l5=>
    some (aP.mk r1.now r1.field a0.1 a4.1 l5,a0.2.1,0)
def aQ3:bL:=⟨aD.cons (aN.agg bU) (aD.one (aN.agg (cO.row kM))),aN.tup (aD.cons (aN.agg bU) (aD.cons (aN.int .i64) (aD.one (aN.int .i64)))),fun a=>lS a.1 a.2,.frz,false⟩
theorem aIR:aM tab 199 aQ3:=Oc aGH rfl aH [(253,aQ2),(77,c77),(77,VK),(99,c99),(251,aOB),(252,aOC)] ⟨aIQ,IJ,DS,VU,YQ,YR,trivial⟩ fun a=>by kernel_rfl
abbrev aQ4:=yO×Int×Int×Int×bI×Int×bI×(List Int)×(List Bool)×(List Int)×iM×(List Int)×bI×bI×Int×Int×Int×Int×Int×bI×Int×bI×(List Int)×(List Bool)×(List Int)×iM×(List Int)×bI
abbrev Zt4:=cA aQ4 (aP×Int)
abbrev aQ5:=yO×Int×Int×Int×Int×Int×Int×bI×Int×bI×(List Int)×(List Bool)×(List Int)×iM×(List Int)×bI
def dY (s:aQ5):Option (cA aQ5 Zt4):=
 bif decide (s.2.1<(Int.ofNat s.1.length)) then
  (aK s.1 s.2.1).bind fun a0=>
  (vW (aU.mk s.2.2.2.2.2.2.2.2.1 s.2.2.2.2.2.2.2.2.2.1) a0).bind fun b1=>
  bif b1 then
   some (.next (s.1,aA .i64 (s.2.1+1),s.2.2))
  else
   (aK s.1 s.2.1).bind fun a2=>
   (lS (aP.mk (s.2.2.2.2.2.1,s.2.2.2.2.2.2.1) (Field.mk s.2.2.2.2.2.2.2.1) (aU.mk s.2.2.2.2.2.2.2.2.1 s.2.2.2.2.2.2.2.2.2.1) (aG.mk (aR.mk s.2.2.2.2.2.2.2.2.2.2.1 s.2.2.2.2.2.2.2.2.2.2.2.1 s.2.2.2.2.2.2.2.2.2.2.2.2.1) s.2.2.2.2.2.2.2.2.2.2.2.2.2.1 s.2.2.2.2.2.2.2.2.2.2.2.2.2.2.1) s.2.2.2.2.2.2.2.2.2.2.2.2.2.2.2) a2).bind fun a3=>
   bif a3.2.2 !=0 then
    some (.done (.done (aP.mk (0,0) (Field.mk []) (aU.mk 0 []) (aG.mk (aR.mk [] [] []) [] []) [],a3.2.2)))
   else
    some (.next (s.1,aA .i64 (s.2.1+1),s.2.2.1,s.2.2.2.1,s.2.2.2.2.1,a3.1.now.1,a3.1.now.2,a3.1.field.points,a3.1.certs.next_,a3.1.certs.list,a3.1.agenda.slots.uses,a3.1.agenda.slots.used,a3.1.agenda.slots.free,a3.1.agenda.heap,a3.1.agenda.where_,a3.1.due))
 else
  some (.done (.done (aP.mk (s.2.2.2.2.2.1,s.2.2.2.2.2.2.1) (Field.mk s.2.2.2.2.2.2.2.1) (aU.mk s.2.2.2.2.2.2.2.2.1 s.2.2.2.2.2.2.2.2.2.1) (aG.mk (aR.mk s.2.2.2.2.2.2.2.2.2.2.1 s.2.2.2.2.2.2.2.2.2.2.2.1 s.2.2.2.2.2.2.2.2.2.2.2.2.1) s.2.2.2.2.2.2.2.2.2.2.2.2.2.1 s.2.2.2.2.2.2.2.2.2.2.2.2.2.2.1) s.2.2.2.2.2.2.2.2.2.2.2.2.2.2.2,0)))
def dM (s:aQ4):Option Zt4:=
 match s with
 |(a,b,d,e,f,g,h,i,j,k,l,m,n,o,q,r,t,u,v,w,x,y,z,A,B,C,D,E)=>
  bif decide (b<(Int.ofNat h.length)) then
   (aK h b).bind fun a0=>
   (GZ a a0.2).bind fun b1=>
   bif !b1 then
    (aK h b).bind fun a2=>
    (wT (aP.mk (u,v) (Field.mk w) (aU.mk x y) (aG.mk (aR.mk z A B) C D) E) a2.1).bind fun r3=>
    some (.next (a,aA .i64 (b+1),d,e,f,g,h,i,j,k,l,m,n,o,q,r,t,r3.now.1,r3.now.2,r3.field.points,r3.certs.next_,r3.certs.list,r3.agenda.slots.uses,r3.agenda.slots.used,r3.agenda.slots.free,r3.agenda.heap,r3.agenda.where_,r3.due))
   else
    some (.next (a,aA .i64 (b+1),(d,e,f,g,h,i,j,k,l,m,n,o,q,r,t,u,v,w,x,y,z,A,B,C,D,E)))
  else
   (wU (Field.mk w) (Field.mk o)).bind fun b4=>
   bif !b4 then
    (mU (aP.mk (u,v) (Field.mk w) (aU.mk x y) (aG.mk (aR.mk z A B) C D) E) (Field.mk o)).bind fun a5=>
    bif a5.2 !=0 then
     some (.done (aP.mk (0,0) (Field.mk []) (aU.mk 0 []) (aG.mk (aR.mk [] [] []) [] []) [],a5.2))
    else
     aJ dY (a,0,q,r,t,a5.1.now.1,a5.1.now.2,a5.1.field.points,a5.1.certs.next_,a5.1.certs.list,a5.1.agenda.slots.uses,a5.1.agenda.slots.used,a5.1.agenda.slots.free,a5.1.agenda.heap,a5.1.agenda.where_,a5.1.due)
   else
    aJ dY (a,0,(q,r,t,u,v,w,x,y,z,A,B,C,D,E))
def oQ (p0:aP) (p1:Field) (p2:List (Int×Int)):Option (aP×Int):=
 (jD p0).bind fun r0=>
 aJ dM (p2,0,p0.now.1,p0.now.2,p0.field.points,p0.certs.next_,p0.certs.list,p0.agenda.slots.uses,p0.agenda.slots.used,p0.agenda.slots.free,p0.agenda.heap,p0.agenda.where_,p0.due,p1.points,0,0,0,r0.now.1,r0.now.2,r0.field.points,r0.certs.next_,r0.certs.list,r0.agenda.slots.uses,r0.agenda.slots.used,r0.agenda.slots.free,r0.agenda.heap,r0.agenda.where_,r0.due)
def aQ6:bL:=⟨aD.cons (aN.agg bU) (aD.cons (aN.agg cB) (aD.one (aN.sl kM))),aN.tup (aD.cons (aN.agg bU) (aD.one (aN.int .i64))),fun a=>oQ a.1 a.2.1 a.2.2,.frz,false⟩
theorem aIS:aM tab 144 aQ6:=Oc aF3 rfl aH [(77,c77),(77,VK),(29,c29),(197,aQW),(21,c21),(198,aQ1),(101,aIJ),(199,aQ3)] ⟨IJ,DS,aOy,aIM,aCf,aIP,QI,aIR,trivial⟩ fun a=>by kernel_rfl
def pJ (p0:aP) (p1:Field) (p2:List Int):Option (cC×Int):=
 (CY p2).bind fun l0=>
 (oQ p0 p1 l0).bind fun a1=>
 bif a1.2 !=0 then
  some (cC.mk (aP.mk (0,0) (Field.mk []) (aU.mk 0 []) (aG.mk (aR.mk [] [] []) [] []) []) [],a1.2)
 else
  some (cC.mk a1.1 p2,0)
def c81:bL:=⟨aD.cons (aN.agg bU) (aD.cons (aN.agg cB) (aD.one (aN.sl ki))),aN.tup (aD.cons (aN.agg gC) (aD.one (aN.int .i64))),fun a=>pJ a.1 a.2.1 a.2.2,.frz,false⟩
theorem aCj:aM tab 81 c81:=Oc aNG rfl aH [(55,c55),(55,aOt),(144,aQ6)] ⟨aCc,YM,aIS,trivial⟩ fun a=>by kernel_rfl
def vZ (p0:cC) (p1:Int×Int×Int):Option (cC×Int):=
 (nQ p0).bind fun n0=>
 bif n0 !=0 then
  (nQ p0).bind fun n1=>
  some (cC.mk (aP.mk (0,0) (Field.mk []) (aU.mk 0 []) (aG.mk (aR.mk [] [] []) [] []) []) [],n1)
 else
  (mT p0.clock.field p1).bind fun a2=>
  bif a2.2 !=0 then
   some (cC.mk (aP.mk (0,0) (Field.mk []) (aU.mk 0 []) (aG.mk (aR.mk [] [] []) [] []) []) [],a2.2)
  else
   (bR p0.heap).bind fun l3=>
   (bO l3 [p1.1]).bind fun l4=>
   (pY a2.1 p0.clock.now l4 (aA .i64 ((Int.ofNat l4.length) -1))).bind fun l5=>
   (pJ p0.clock a2.1 l5).bind fun a6=>
   some a6
def c33:bL:=⟨aD.cons (aN.agg gC) (aD.one (aN.agg (cO.row eF))),aN.tup (aD.cons (aN.agg gC) (aD.one (aN.int .i64))),fun a=>vZ a.1 a.2,.frz,false⟩
theorem aOD:aM tab 33 c33:=Oc aNe rfl aH [(13,c13),(80,c80),(82,c82),(82,aOx),(81,c81)] ⟨aCd,aOw,aCe,YN,aCj,trivial⟩ fun a=>by kernel_rfl
def iS (p0:Field) (p1:Int×Int×Int):Option (Field×Int):=
 (dS p0).bind fun n0=>
 bif n0 !=0 then
  some (Field.mk [],n0)
 else
  (jW p1).bind fun n1=>
  bif n1 !=0 then
   some (Field.mk [],n1)
  else
   (kB p0 p1.1).bind fun a2=>
   bif a2.2 !=0 then
    some (Field.mk [],a2.2)
   else
    (bR p0.points).bind fun l3=>
    (aK l3 a2.1).bind fun _=>
    some (Field.mk (bM l3 a2.1 p1),0)
def c48:bL:=⟨aD.cons (aN.agg cB) (aD.one (aN.agg (cO.row eF))),aN.tup (aD.cons (aN.agg cB) (aD.one (aN.int .i64))),fun a=>iS a.1 a.2,.frz,false⟩
theorem aOE:aM tab 48 c48:=Oc aNm rfl aH [(87,c87),(88,c88),(92,c92),(91,bL.clone eF)] ⟨IL,P7,aBX,AZ,trivial⟩ fun a=>by kernel_rfl
abbrev aQ7:=Int×Int×Int×bI×Int×bI×(List Int)×(List Bool)×(List Int)×iM×(List Int)×bI×(List Int)×Int×Int×Int×Int×Int×Int×bI×(List Int)×bI×Int×Int×Int×Int×Int×Int×Int×Int
abbrev TE:=Int×Int×Int×bI×Int×bI×(List Int)×(List Bool)×(List Int)×iM×(List Int)×bI×(List Int)×Int×Int×Int×Int×Int×Int×bI×(List Int)×bI×Int×Int
abbrev aOF:=cA TE (cC×Int)
abbrev Zt1:=cA aQ7 aOF
abbrev Zt8:=Int×Int×Int×Int×Int×bI×Int×bI×(List Int)×(List Bool)×(List Int)×iM×(List Int)×bI×(List Int)×Int×Int×Int×Int×Int×Int×bI×(List Int)×bI×Int×Int×Int×Int×Int×Int×Int×Int
def iI (c0:TE) (s:Zt8):Option (cA Zt8 Zt1):=
 match s with
 |(a,b,d,e,f,g,h,i,j,k,l,m,n,o,q,r,t,u,v,w,x,y,z,A,B,C,D,E,F,G,H,I)=>
  bif decide (d<=(aA .i64 ((aA .i64 (2*a))+2))) then
   bif decide (d<(Int.ofNat z.length)) then
    (aK z d).bind fun n0=>
    (eJ (Field.mk A) n0).bind fun a1=>
    (aK z b).bind fun n2=>
    (eJ (Field.mk A) n2).bind fun a3=>
    (gV a1.1 a3.1 (B,C)).bind fun a4=>
    bif z.length==z.length then
     bif a4.1 then
      some (.next (a,d,aA .i64 (d+1),(e,f,g,h,i,j,k,l,m,n,o,q,r,t,u,v,w,x,y,z,A,B,C,D,E,F,G,H,I)))
     else
      some (.next (a,b,aA .i64 (d+1),(e,f,g,h,i,j,k,l,m,n,o,q,r,t,u,v,w,x,y,z,A,B,C,D,E,F,G,H,I)))
    else
     none
   else
    bif b==a then
     bif z.length==c0.2.2.2.2.2.2.2.2.2.2.2.2.2.2.2.2.2.2.2.2.1.length then
      (bZ (aP.mk (e,f) (Field.mk g) (aU.mk h i) (aG.mk (aR.mk j k l) m n) o) (Field.mk y) z).bind fun a5=>
      some (.done (.done (.done a5)))
     else
      none
    else
     (aK z b).bind fun n6=>
     (aK z a).bind fun n7=>
     (aK z a).bind fun _=>
     (aK (bM z a n6) b).bind fun _=>
     some (.done (.next (b,e,f,g,h,i,j,k,l,m,n,o,q,r,t,u,v,w,x,y,bM (bM z a n6) b n7,(A,B,C,D,E,F,G,H,I))))
  else
   bif b==a then
    bif z.length==c0.2.2.2.2.2.2.2.2.2.2.2.2.2.2.2.2.2.2.2.2.1.length then
     (bZ (aP.mk (e,f) (Field.mk g) (aU.mk h i) (aG.mk (aR.mk j k l) m n) o) (Field.mk y) z).bind fun a10=>
     some (.done (.done (.done a10)))
    else
     none
   else
    (aK z b).bind fun n11=>
    (aK z a).bind fun n12=>
    (aK z a).bind fun _=>
    (aK (bM z a n11) b).bind fun _=>
    some (.done (.next (b,e,f,g,h,i,j,k,l,m,n,o,q,r,t,u,v,w,x,y,bM (bM z a n11) b n12,(A,B,C,D,E,F,G,H,I))))
def oZ (c0:TE) (s:aQ7):Option Zt1:=
 aJ (iI c0) (s.1,s.1,aA .i64 ((aA .i64 (2*s.1))+1),s.2)
abbrev Zt2:=cA TE aOF
abbrev aQ8:=Int×Int×Int×Int×Int×bI×Int×bI×(List Int)×(List Bool)×(List Int)×iM×(List Int)×bI×(List Int)×Int×Int×Int×Int×Int×Int×bI×(List Int)×bI×Int×Int
def iJ (c0:TE) (s:aQ8):Option (cA aQ8 Zt2):=
 match s with
 |(a,b,d,e,f,g,h,i,j,k,l,m,n,o,q,r,t,u,v,w,x,y,z,A,B,C)=>
  bif decide (d<=(aA .i64 ((aA .i64 (2*a))+2))) then
   bif decide (d<(Int.ofNat z.length)) then
    (aK z d).bind fun n0=>
    (eJ (Field.mk A) n0).bind fun a1=>
    (aK z b).bind fun n2=>
    (eJ (Field.mk A) n2).bind fun a3=>
    (gV a1.1 a3.1 (B,C)).bind fun a4=>
    bif z.length==z.length then
     bif a4.1 then
      some (.next (a,d,aA .i64 (d+1),(e,f,g,h,i,j,k,l,m,n,o,q,r,t,u,v,w,x,y,z,A,B,C)))
     else
      some (.next (a,b,aA .i64 (d+1),(e,f,g,h,i,j,k,l,m,n,o,q,r,t,u,v,w,x,y,z,A,B,C)))
    else
     none
   else
    bif b==a then
     bif z.length==c0.2.2.2.2.2.2.2.2.2.2.2.2.2.2.2.2.2.2.2.2.1.length then
      (bZ (aP.mk (e,f) (Field.mk g) (aU.mk h i) (aG.mk (aR.mk j k l) m n) o) (Field.mk y) z).bind fun a5=>
      some (.done (.done (.done a5)))
     else
      none
    else
     (aK z b).bind fun n6=>
     (aK z a).bind fun n7=>
     (aK z a).bind fun _=>
     (aK (bM z a n6) b).bind fun _=>
     some (.done (.next (b,e,f,g,h,i,j,k,l,m,n,o,q,r,t,u,v,w,x,y,bM (bM z a n6) b n7,(A,B,C))))
  else
   bif b==a then
    bif z.length==c0.2.2.2.2.2.2.2.2.2.2.2.2.2.2.2.2.2.2.2.2.1.length then
     (bZ (aP.mk (e,f) (Field.mk g) (aU.mk h i) (aG.mk (aR.mk j k l) m n) o) (Field.mk y) z).bind fun a10=>
     some (.done (.done (.done a10)))
    else
     none
   else
    (aK z b).bind fun n11=>
    (aK z a).bind fun n12=>
    (aK z a).bind fun _=>
    (aK (bM z a n11) b).bind fun _=>
    some (.done (.next (b,e,f,g,h,i,j,k,l,m,n,o,q,r,t,u,v,w,x,y,bM (bM z a n11) b n12,(A,B,C))))
def pA (c0:TE) (s:TE):Option Zt2:=
 aJ (iJ c0) (s.1,s.1,aA .i64 ((aA .i64 (2*s.1))+1),s.2)
def mM (c0:(List Int)) (s:TE):Option aOF:=
 bif decide (0<s.1) then
  (aK s.2.2.2.2.2.2.2.2.2.2.2.2.2.2.2.2.2.2.2.2.1 s.1).bind fun n0=>
  (eJ (Field.mk s.2.2.2.2.2.2.2.2.2.2.2.2.2.2.2.2.2.2.2.2.2.1) n0).bind fun a1=>
  (aK s.2.2.2.2.2.2.2.2.2.2.2.2.2.2.2.2.2.2.2.2.1 (aA .i64 (Int.tdiv (aA .i64 (s.1-1)) 2))).bind fun n2=>
  (eJ (Field.mk s.2.2.2.2.2.2.2.2.2.2.2.2.2.2.2.2.2.2.2.2.2.1) n2).bind fun a3=>
  (gV a1.1 a3.1 s.2.2.2.2.2.2.2.2.2.2.2.2.2.2.2.2.2.2.2.2.2.2).bind fun a4=>
  bif s.2.2.2.2.2.2.2.2.2.2.2.2.2.2.2.2.2.2.2.2.1.length==s.2.2.2.2.2.2.2.2.2.2.2.2.2.2.2.2.2.2.2.2.1.length then
   bif a4.1 then
    (aK s.2.2.2.2.2.2.2.2.2.2.2.2.2.2.2.2.2.2.2.2.1 (aA .i64 (Int.tdiv (aA .i64 (s.1-1)) 2))).bind fun n5=>
    (aK s.2.2.2.2.2.2.2.2.2.2.2.2.2.2.2.2.2.2.2.2.1 s.1).bind fun n6=>
    (aK s.2.2.2.2.2.2.2.2.2.2.2.2.2.2.2.2.2.2.2.2.1 s.1).bind fun _=>
    (aK (bM s.2.2.2.2.2.2.2.2.2.2.2.2.2.2.2.2.2.2.2.2.1 s.1 n5) (aA .i64 (Int.tdiv (aA .i64 (s.1-1)) 2))).bind fun _=>
    some (.next (aA .i64 (Int.tdiv (aA .i64 (s.1-1)) 2),s.2.1,s.2.2.1,s.2.2.2.1,s.2.2.2.2.1,s.2.2.2.2.2.1,s.2.2.2.2.2.2.1,s.2.2.2.2.2.2.2.1,s.2.2.2.2.2.2.2.2.1,s.2.2.2.2.2.2.2.2.2.1,s.2.2.2.2.2.2.2.2.2.2.1,s.2.2.2.2.2.2.2.2.2.2.2.1,s.2.2.2.2.2.2.2.2.2.2.2.2.1,s.2.2.2.2.2.2.2.2.2.2.2.2.2.1,s.2.2.2.2.2.2.2.2.2.2.2.2.2.2.1,s.2.2.2.2.2.2.2.2.2.2.2.2.2.2.2.1,s.2.2.2.2.2.2.2.2.2.2.2.2.2.2.2.2.1,s.2.2.2.2.2.2.2.2.2.2.2.2.2.2.2.2.2.1,s.2.2.2.2.2.2.2.2.2.2.2.2.2.2.2.2.2.2.1,s.2.2.2.2.2.2.2.2.2.2.2.2.2.2.2.2.2.2.2.1,bM (bM s.2.2.2.2.2.2.2.2.2.2.2.2.2.2.2.2.2.2.2.2.1 s.1 n5) (aA .i64 (Int.tdiv (aA .i64 (s.1-1)) 2)) n6,s.2.2.2.2.2.2.2.2.2.2.2.2.2.2.2.2.2.2.2.2.2))
   else
    bif s.2.2.2.2.2.2.2.2.2.2.2.2.2.2.2.2.2.2.2.2.1.length==c0.length then
     aJ (oZ s) (s.1,s.2.1,s.2.2.1,s.2.2.2.1,s.2.2.2.2.1,s.2.2.2.2.2.1,s.2.2.2.2.2.2.1,s.2.2.2.2.2.2.2.1,s.2.2.2.2.2.2.2.2.1,s.2.2.2.2.2.2.2.2.2.1,s.2.2.2.2.2.2.2.2.2.2.1,s.2.2.2.2.2.2.2.2.2.2.2.1,s.2.2.2.2.2.2.2.2.2.2.2.2.1,s.2.2.2.2.2.2.2.2.2.2.2.2.2.1,s.2.2.2.2.2.2.2.2.2.2.2.2.2.2.1,s.2.2.2.2.2.2.2.2.2.2.2.2.2.2.2.1,s.2.2.2.2.2.2.2.2.2.2.2.2.2.2.2.2.1,s.2.2.2.2.2.2.2.2.2.2.2.2.2.2.2.2.2.1,s.2.2.2.2.2.2.2.2.2.2.2.2.2.2.2.2.2.2.1,s.2.2.2.2.2.2.2.2.2.2.2.2.2.2.2.2.2.2.2.1,s.2.2.2.2.2.2.2.2.2.2.2.2.2.2.2.2.2.2.2.2.1,s.2.2.2.2.2.2.2.2.2.2.2.2.2.2.2.2.2.2.2.2.2.1,s.2.2.2.2.2.2.2.2.2.2.2.2.2.2.2.2.2.2.2.2.2.2.1,s.2.2.2.2.2.2.2.2.2.2.2.2.2.2.2.2.2.2.2.2.2.2.2,a1.1.1,a1.1.2.1,a1.1.2.2,a3.1)
    else
     none
  else
   none
 else
  bif s.2.2.2.2.2.2.2.2.2.2.2.2.2.2.2.2.2.2.2.2.1.length==c0.length then
   aJ (pA s) s
  else
   none
def oC (p0:cC) (p1:Int×Int×Int):Option (cC×Int):=
 (uB p0).bind fun n0=>
 bif n0 !=0 then
  some (cC.mk (aP.mk (0,0) (Field.mk []) (aU.mk 0 []) (aG.mk (aR.mk [] [] []) [] []) []) [],n0)
 else
  (iS p0.clock.field p1).bind fun a1=>
  bif a1.2 !=0 then
   some (cC.mk (aP.mk (0,0) (Field.mk []) (aU.mk 0 []) (aG.mk (aR.mk [] [] []) [] []) []) [],a1.2)
  else
   (bR p0.heap).bind fun l2=>
   bif l2.length==l2.length then
    (iZ l2 p1.1).bind fun n3=>
    aJ (mM l2) (n3,p0.clock.now.1,p0.clock.now.2,p0.clock.field.points,p0.clock.certs.next_,p0.clock.certs.list,p0.clock.agenda.slots.uses,p0.clock.agenda.slots.used,p0.clock.agenda.slots.free,p0.clock.agenda.heap,p0.clock.agenda.where_,p0.clock.due,p0.heap,p1.1,p1.2.1,p1.2.2,0,0,0,a1.1.points,l2,a1.1.points,p0.clock.now)
   else
    none
def c34:bL:=⟨aD.cons (aN.agg gC) (aD.one (aN.agg (cO.row eF))),aN.tup (aD.cons (aN.agg gC) (aD.one (aN.int .i64))),fun a=>oC a.1 a.2,.frz,false⟩
theorem aOG:aM tab 34 c34:=aM.of aNf (cx:=(pG aH [(59,c59),(48,c48),(64,bL.clone ki),(139,aBY),(128,aH8),(83,c83),(79,c79)] [] [(78,x78),(138,aBB),(140,aBC),(141,aBD)] [])) rfl (mK.make ⟨aBZ,aOE,qM,KF,QF,aBV,aB4,trivial⟩ trivial ⟨aBK,XW,XX,XY,trivial⟩) (fun a=>by kernel_rfl)
def iT (p0:Field) (p1:Int×Int×Int):Option (Field×Int):=
 (lQ p0).bind fun n0=>
 bif n0 !=0 then
  some (Field.mk [],n0)
 else
  (pW p1).bind fun n1=>
  bif n1 !=0 then
   some (Field.mk [],8)
  else
   (gG p0 p1.1).bind fun n2=>
   bif decide (n2<0) then
    some (Field.mk [],6)
   else
    (lX p0).bind fun r3=>
    (aK r3.points n2).bind fun _=>
    some (Field.mk (bM r3.points n2 p1),0)
def c41:bL:=⟨aD.cons (aN.agg cB) (aD.one (aN.agg (cO.row eF))),aN.tup (aD.cons (aN.agg cB) (aD.one (aN.int .i64))),fun a=>iT a.1 a.2,.frz,false⟩
theorem aOH:aM tab 41 c41:=Oc aNi rfl aH [(19,c19),(44,c44),(40,c40),(86,c86),(86,aBS)] ⟨VQ,VP,FM,P4,KC,trivial⟩ fun a=>by kernel_rfl
def rE (s:((List Int)×Int×Int)):Option (cA ((List Int)×Int×Int) Int):=
 bif decide (s.2.2<(Int.ofNat s.1.length)) then
  (aK s.1 s.2.2).bind fun n0=>
  bif n0==s.2.1 then
   some (.done s.2.2)
  else
   some (.next (s.1,s.2.1,aA .i64 (s.2.2+1)))
 else
  some (.done (-1))
def yB (p0:List Int) (p1:Int):Option Int:=
 aJ rE (p0,p1,0)
def c43:bL:=⟨aD.cons (aN.sl ki) (aD.one (aN.int .i64)),aN.int .i64,fun a=>yB a.1 a.2,.pure,false⟩
theorem aCk:aM tab 43 c43:=Oc aNj rfl aH [] trivial fun a=>by kernel_rfl
def fG (s:aHC):Option (cA aHC (List Int)):=
 bif decide ((aA .i64 ((aA .i64 (2*s.1))+1))<(Int.ofNat s.2.2.2.2.length)) then
  bif decide ((aA .i64 ((aA .i64 ((aA .i64 (2*s.1))+1))+1))<(Int.ofNat s.2.2.2.2.length)) then
   (aK s.2.2.2.2 (aA .i64 ((aA .i64 ((aA .i64 (2*s.1))+1))+1))).bind fun n0=>
   (aK s.2.2.2.2 (aA .i64 ((aA .i64 (2*s.1))+1))).bind fun n1=>
   (lR (Field.mk s.2.1) (s.2.2.1,s.2.2.2.1) n0 n1).bind fun b2=>
   bif b2 then
    (aK s.2.2.2.2 (aA .i64 ((aA .i64 ((aA .i64 (2*s.1))+1))+1))).bind fun n3=>
    (aK s.2.2.2.2 s.1).bind fun n4=>
    (lR (Field.mk s.2.1) (s.2.2.1,s.2.2.2.1) n3 n4).bind fun b5=>
    bif !b5 then
     some (.done s.2.2.2.2)
    else
     (aK s.2.2.2.2 (aA .i64 ((aA .i64 ((aA .i64 (2*s.1))+1))+1))).bind fun n6=>
     (aK s.2.2.2.2 s.1).bind fun n7=>
     (aK s.2.2.2.2 s.1).bind fun _=>
     (aK (bM s.2.2.2.2 s.1 n6) (aA .i64 ((aA .i64 ((aA .i64 (2*s.1))+1))+1))).bind fun _=>
     some (.next (aA .i64 ((aA .i64 ((aA .i64 (2*s.1))+1))+1),s.2.1,s.2.2.1,s.2.2.2.1,bM (bM s.2.2.2.2 s.1 n6) (aA .i64 ((aA .i64 ((aA .i64 (2*s.1))+1))+1)) n7))
   else
    (aK s.2.2.2.2 (aA .i64 ((aA .i64 (2*s.1))+1))).bind fun n10=>
    (aK s.2.2.2.2 s.1).bind fun n11=>
    (lR (Field.mk s.2.1) (s.2.2.1,s.2.2.2.1) n10 n11).bind fun b12=>
    bif !b12 then
     some (.done s.2.2.2.2)
    else
     (aK s.2.2.2.2 (aA .i64 ((aA .i64 (2*s.1))+1))).bind fun n13=>
     (aK s.2.2.2.2 s.1).bind fun n14=>
     (aK s.2.2.2.2 s.1).bind fun _=>
     (aK (bM s.2.2.2.2 s.1 n13) (aA .i64 ((aA .i64 (2*s.1))+1))).bind fun _=>
     some (.next (aA .i64 ((aA .i64 (2*s.1))+1),s.2.1,s.2.2.1,s.2.2.2.1,bM (bM s.2.2.2.2 s.1 n13) (aA .i64 ((aA .i64 (2*s.1))+1)) n14))
  else
   (aK s.2.2.2.2 (aA .i64 ((aA .i64 (2*s.1))+1))).bind fun n17=>
   (aK s.2.2.2.2 s.1).bind fun n18=>
   (lR (Field.mk s.2.1) (s.2.2.1,s.2.2.2.1) n17 n18).bind fun b19=>
   bif !b19 then
    some (.done s.2.2.2.2)
   else
    (aK s.2.2.2.2 (aA .i64 ((aA .i64 (2*s.1))+1))).bind fun n20=>
    (aK s.2.2.2.2 s.1).bind fun n21=>
    (aK s.2.2.2.2 s.1).bind fun _=>
    (aK (bM s.2.2.2.2 s.1 n20) (aA .i64 ((aA .i64 (2*s.1))+1))).bind fun _=>
    some (.next (aA .i64 ((aA .i64 (2*s.1))+1),s.2.1,s.2.2.1,s.2.2.2.1,bM (bM s.2.2.2.2 s.1 n20) (aA .i64 ((aA .i64 (2*s.1))+1)) n21))
 else
  some (.done s.2.2.2.2)
def FP (p0:Field) (p1:Int×Int) (p2:List Int) (p3:Int):Option (List Int):=
 (bR p2).bind fun l0=>
 aJ fG (p3,p0.points,p1.1,p1.2,l0)
def aQ9:bL:=⟨aD.cons (aN.agg cB) (aD.cons (aN.agg (cO.row kM)) (aD.cons (aN.sl ki) (aD.one (aN.int .i64)))),aN.sl ki,fun a=>FP a.1 a.2.1 a.2.2.1 a.2.2.2,.frz,false⟩
theorem aIT:aM tab 145 aQ9:=Oc aF4 rfl aH [(22,c22)] ⟨VV,trivial⟩ fun a=>by kernel_rfl
def vO (p0:Field) (p1:Int×Int) (p2:List Int) (p3:Int):Option (List Int):=
 (aK p2 p3).bind fun n0=>
 (pY p0 p1 p2 p3).bind fun l1=>
 (yB l1 n0).bind fun n2=>
 (FP p0 p1 l1 n2).bind fun l3=>
 some l3
def c84:bL:=⟨aD.cons (aN.agg cB) (aD.cons (aN.agg (cO.row kM)) (aD.cons (aN.sl ki) (aD.one (aN.int .i64)))),aN.sl ki,fun a=>vO a.1 a.2.1 a.2.2.1 a.2.2.2,.frz,false⟩
theorem aOI:aM tab 84 c84:=Oc aNI rfl aH [(82,c82),(82,aOx),(43,c43),(145,aQ9)] ⟨aCe,YN,aCk,aIT,trivial⟩ fun a=>by kernel_rfl
def oD (p0:cC) (p1:Int×Int×Int):Option (cC×Int):=
 (nQ p0).bind fun n0=>
 bif n0 !=0 then
  (nQ p0).bind fun n1=>
  some (cC.mk (aP.mk (0,0) (Field.mk []) (aU.mk 0 []) (aG.mk (aR.mk [] [] []) [] []) []) [],n1)
 else
  (iT p0.clock.field p1).bind fun a2=>
  bif a2.2 !=0 then
   some (cC.mk (aP.mk (0,0) (Field.mk []) (aU.mk 0 []) (aG.mk (aR.mk [] [] []) [] []) []) [],a2.2)
  else
   (yB p0.heap p1.1).bind fun n3=>
   (vO a2.1 p0.clock.now p0.heap n3).bind fun l4=>
   (pJ p0.clock a2.1 l4).bind fun a5=>
   some a5
def c35:bL:=⟨aD.cons (aN.agg gC) (aD.one (aN.agg (cO.row eF))),aN.tup (aD.cons (aN.agg gC) (aD.one (aN.int .i64))),fun a=>oD a.1 a.2,.frz,false⟩
theorem aOJ:aM tab 35 c35:=Oc aNg rfl aH [(13,c13),(41,c41),(43,c43),(84,c84),(81,c81)] ⟨aCd,aOH,aCk,aOI,aCj,trivial⟩ fun a=>by kernel_rfl
def tC (s:(Int×Int×bI×Int×bI)):Option (cA (Int×Int×bI×Int×bI) Bool):=
 bif decide (s.1<(Int.ofNat s.2.2.1.length)) then
  (aK s.2.2.1 s.1).bind fun a0=>
  (aK s.2.2.2.2 s.1).bind fun a1=>
  bif !((a0.1==a1.1)&&((a0.2.1==a1.2.1)&&(a0.2.2==a1.2.2))) then
   some (.done false)
  else
   some (.next (aA .i64 (s.1+1),s.2))
 else
  some (.done true)
def A8 (p0:aU) (p1:aU):Option Bool:=
 bif p0.next_ !=p1.next_ then
  some false
 else
  bif (Int.ofNat p0.list.length) !=(Int.ofNat p1.list.length) then
   some false
  else
   aJ tC (0,p0.next_,p0.list,p1.next_,p1.list)
def aRa:bL:=⟨aD.cons (aN.agg gT) (aD.one (aN.agg gT)),aN.bool,fun a=>A8 a.1 a.2,.pure,false⟩
theorem aIU:aM tab 116 aRa:=Oc aFQ rfl aH [] trivial fun a=>by kernel_rfl
abbrev aIV:=(List Int)×(List Int)×Int
def mZ (s:aIV):Option (cA aIV Bool):=
 bif decide (s.2.2<(Int.ofNat s.1.length)) then
  (aK s.1 s.2.2).bind fun n0=>
  (aK s.2.1 s.2.2).bind fun n1=>
  bif n0 !=n1 then
   some (.done false)
  else
   some (.next (s.1,s.2.1,aA .i64 (s.2.2+1)))
 else
  some (.done true)
def lH (p0:List Int) (p1:List Int):Option Bool:=
 bif (Int.ofNat p0.length) !=(Int.ofNat p1.length) then
  some false
 else
  aJ mZ (p0,p1,0)
def aOK:bL:=⟨aD.cons (aN.sl ki) (aD.one (aN.sl ki)),aN.bool,fun a=>lH a.1 a.2,.pure,false⟩
theorem YS:aM tab 175 aOK:=Oc aGs rfl aH [] trivial fun a=>by kernel_rfl
def mD (s:((List Bool)×(List Bool)×Int)):Option (cA ((List Bool)×(List Bool)×Int) Bool):=
 bif decide (s.2.2<(Int.ofNat s.1.length)) then
  (aK s.1 s.2.2).bind fun b0=>
  (aK s.2.1 s.2.2).bind fun b1=>
  bif !(b0==b1) then
   some (.done false)
  else
   some (.next (s.1,s.2.1,aA .i64 (s.2.2+1)))
 else
  some (.done true)
def pB (p0:List Bool) (p1:List Bool):Option Bool:=
 bif (Int.ofNat p0.length) !=(Int.ofNat p1.length) then
  some false
 else
  aJ mD (p0,p1,0)
def aRb:bL:=⟨aD.cons (aN.sl kb) (aD.one (aN.sl kb)),aN.bool,fun a=>pB a.1 a.2,.pure,false⟩
theorem aIW:aM tab 213 aRb:=Oc aGR rfl aH [] trivial fun a=>by kernel_rfl
def FQ (p0:aR) (p1:aR):Option Bool:=
 (lH p0.uses p1.uses).bind fun b0=>
 bif b0 then
  (pB p0.used p1.used).bind fun b1=>
  bif b1 then
   (lH p0.free p1.free).bind fun b2=>
   some b2
  else
   some false
 else
  some false
def aRc:bL:=⟨aD.cons (aN.agg gL) (aD.one (aN.agg gL)),aN.bool,fun a=>FQ a.1 a.2,.pure,false⟩
theorem aIX:aM tab 174 aRc:=Oc aGr rfl aH [(175,aOK),(213,aRb)] ⟨YS,aIW,trivial⟩ fun a=>by kernel_rfl
abbrev aRd:=Int×(List Int)×(List Bool)×(List Int)×iM×(List Int)×(List Int)×(List Bool)×(List Int)×iM×(List Int)
def tD (s:aRd):Option (cA aRd Bool):=
 bif decide (s.1<(Int.ofNat s.2.2.2.2.1.length)) then
  (aK s.2.2.2.2.1 s.1).bind fun a0=>
  (aK s.2.2.2.2.2.2.2.2.2.1 s.1).bind fun a1=>
  bif !((a0.1==a1.1)&&((a0.2.1==a1.2.1)&&((a0.2.2.1==a1.2.2.1)&&((a0.2.2.2.1==a1.2.2.2.1)&&(a0.2.2.2.2==a1.2.2.2.2))))) then
   some (.done false)
  else
   some (.next (aA .i64 (s.1+1),s.2))
 else
  some (.done true)
def A9 (p0:aG) (p1:aG):Option Bool:=
 (FQ p0.slots p1.slots).bind fun b0=>
 bif !b0 then
  some false
 else
  (lH p0.where_ p1.where_).bind fun b1=>
  bif !b1 then
   some false
  else
   bif (Int.ofNat p0.heap.length) !=(Int.ofNat p1.heap.length) then
    some false
   else
    aJ tD (0,p0.slots.uses,p0.slots.used,p0.slots.free,p0.heap,p0.where_,p1.slots.uses,p1.slots.used,p1.slots.free,p1.heap,p1.where_)
def aRe:bL:=⟨aD.cons (aN.agg dD) (aD.one (aN.agg dD)),aN.bool,fun a=>A9 a.1 a.2,.pure,false⟩
theorem aIY:aM tab 117 aRe:=Oc aFR rfl aH [(174,aRc),(175,aOK)] ⟨aIX,YS,trivial⟩ fun a=>by kernel_rfl
abbrev Zt7:=Int×Int×Int×bI×Int×bI×(List Int)×(List Bool)×(List Int)×iM×(List Int)×bI×Int×Int×bI×Int×bI×(List Int)×(List Bool)×(List Int)×iM×(List Int)×bI
def tF (s:Zt7):Option (cA Zt7 Bool):=
 bif decide (s.1<(Int.ofNat s.2.2.2.2.2.2.2.2.2.2.2.1.length)) then
  (aK s.2.2.2.2.2.2.2.2.2.2.2.1 s.1).bind fun a0=>
  (aK s.2.2.2.2.2.2.2.2.2.2.2.2.2.2.2.2.2.2.2.2.2.2 s.1).bind fun a1=>
  bif !((a0.1==a1.1)&&((a0.2.1==a1.2.1)&&(a0.2.2==a1.2.2))) then
   some (.done false)
  else
   some (.next (aA .i64 (s.1+1),s.2))
 else
  some (.done true)
def BA (p0:aP) (p1:aP):Option Bool:=
 bif !((p0.now.1==p1.now.1)&&(p0.now.2==p1.now.2)) then
  some false
 else
  (wU p0.field p1.field).bind fun b0=>
  bif !b0 then
   some false
  else
   (A8 p0.certs p1.certs).bind fun b1=>
   bif !b1 then
    some false
   else
    (A9 p0.agenda p1.agenda).bind fun b2=>
    bif !b2 then
     some false
    else
     bif (Int.ofNat p0.due.length) !=(Int.ofNat p1.due.length) then
      some false
     else
      aJ tF (0,p0.now.1,p0.now.2,p0.field.points,p0.certs.next_,p0.certs.list,p0.agenda.slots.uses,p0.agenda.slots.used,p0.agenda.slots.free,p0.agenda.heap,p0.agenda.where_,p0.due,p1.now.1,p1.now.2,p1.field.points,p1.certs.next_,p1.certs.list,p1.agenda.slots.uses,p1.agenda.slots.used,p1.agenda.slots.free,p1.agenda.heap,p1.agenda.where_,p1.due)
def c65:bL:=⟨aD.cons (aN.agg bU) (aD.one (aN.agg bU)),aN.bool,fun a=>BA a.1 a.2,.pure,false⟩
theorem aOL:aM tab 65 c65:=Oc aNy rfl aH [(21,c21),(116,aRa),(117,aRe)] ⟨aCf,aIU,aIY,trivial⟩ fun a=>by kernel_rfl
def oE (s:aIV):Option (cA aIV Bool):=
 bif decide (s.2.2<(Int.ofNat s.1.length)) then
  (aK s.1 s.2.2).bind fun n0=>
  (aK s.2.1 s.2.2).bind fun n1=>
  bif n0 !=n1 then
   some (.done false)
  else
   some (.next (s.1,s.2.1,aA .i64 (s.2.2+1)))
 else
  some (.done true)
def tG (p0:List Int) (p1:List Int):Option Bool:=
 bif (Int.ofNat p0.length) !=(Int.ofNat p1.length) then
  some false
 else
  aJ oE (p0,p1,0)
def c51:bL:=⟨aD.cons (aN.sl ki) (aD.one (aN.sl ki)),aN.bool,fun a=>tG a.1 a.2,.pure,false⟩
theorem aOM:aM tab 51 c51:=Oc aNn rfl aH [] trivial fun a=>by kernel_rfl
def sD (p0:cC) (p1:cC):Option Bool:=
 (BA p0.clock p1.clock).bind fun b0=>
 bif b0 then
  (tG p0.heap p1.heap).bind fun b1=>
  some b1
 else
  some false
def c17:bL:=⟨aD.cons (aN.agg gC) (aD.one (aN.agg gC)),aN.bool,fun a=>sD a.1 a.2,.pure,false⟩
theorem aON:aM tab 17 c17:=Oc aM6 rfl aH [(65,c65),(51,c51)] ⟨aOL,aOM,trivial⟩ fun a=>by kernel_rfl
def uU (p0:cC) (p1:Int×Int×Int) (p2:Int×Int×Int):Option Bool:=
 (tZ p0).bind fun b0=>
 bif b0 then
  some true
 else
  (wL p0).bind fun r1=>
  (vV r1 p1).bind fun a2=>
  (vZ p0 p1).bind fun a3=>
  (oC r1 p2).bind fun a4=>
  (oD p0 p2).bind fun a5=>
  (sD a2.1 a3.1).bind fun b6=>
  bif b6 then
   bif a2.2==a3.2 then
    (sD a4.1 a5.1).bind fun b7=>
    bif b7 then
     bif a4.2==a5.2 then
      (sD r1 p0).bind fun b8=>
      some b8
     else
      some false
    else
     some false
   else
    some false
  else
   some false
def c6:bL:=⟨aD.cons (aN.agg gC) (aD.cons (aN.agg (cO.row eF)) (aD.one (aN.agg (cO.row eF)))),aN.bool,fun a=>uU a.1 a.2.1 a.2.2,.pure,false⟩
theorem aRf:aM tab 6 c6:=Oc aJK rfl aH [(11,c11),(31,c31),(31,aP0),(32,c32),(33,c33),(34,c34),(35,c35),(17,c17)] ⟨aN3,aN5,aHG,aOn,aOD,aOG,aOJ,aON,trivial⟩ fun a=>by kernel_rfl
end
end
end Go.Proofs.YtfejhjllooomlaaGreat
