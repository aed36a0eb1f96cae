/- Plain functions for what the functions of the seat compute. Printed by a program. -/
import Derived.Test.YtmlghnibpjlchabZVm3
import Derived.Test.YtmlghnibpjlchabZQXT
set_option maxRecDepth 100000
namespace Go.Proofs.Ytmlghnibpjlchab
open Go.Vm
noncomputable section
theorem Oc {f:FuncId} {x:XFunc} {α β:Type} {args:Args α} {res:Arg β} {kd:Kd} {fn:α->Option β} {ow:Bool} (hf:tab f=some (.code x)) (ho:owOK kd ow=true) (lp:Option Nat) (l:List (Nat×Con)) (h:ConsOK tab l) (e: ∀a,evTop (mkCx lp l [] [] []) x args res kd a=fn a):ConOK tab f ⟨args,res,fn,kd,ow⟩:=ConOK.of hf (cx:=mkCx lp l [] [] []) ho (CxOK.make h trivial trivial) e
abbrev kb:List PT:=[.b]
abbrev ki:List PT:=[.i .i64]
def stretch_Size_l1 (s:(Int×Int)):Option (Step (Int×Int) (Int×Int)):=
 bif decide (s.2<s.1) then
  some (.next (s.1,wrapF .i64 (s.2*2)))
 else
  some (.done (s.2,0))
def stretch_Size (p0:Int):Option (Int×Int):=
 bif decide (p0<0) then
  some (0,2)
 else
  bif decide (64<p0) then
   some (0,2)
  else
   whileO stretch_Size_l1 (p0,1)
def c4:Con:=⟨Args.one (Arg.int .i64),Arg.tup (Args.cons (Arg.int .i64) (Args.one (Arg.int .i64))),fun a=>stretch_Size a,.pure,false⟩
theorem c4_ok:ConOK tab 4 c4:=Oc tab_4 rfl whileL [] trivial fun a=>by kernel_rfl
def ref23_Size_l1 (s:(Int×Int)):Option (Step (Int×Int) (Int×Int)):=
 bif decide (s.2<s.1) then
  bif decide (s.1<=(wrapF .i64 (2*s.2))) then
   some (.done (wrapF .i64 (2*s.2),0))
  else
   some (.next (s.1,wrapF .i64 (s.2*2)))
 else
  some (.done (1,0))
def ref23_Size (p0:Int):Option (Int×Int):=
 bif decide (p0<0) then
  some (0,2)
 else
  bif decide (64<p0) then
   some (0,2)
  else
   whileO ref23_Size_l1 (p0,1)
def c5:Con:=⟨Args.one (Arg.int .i64),Arg.tup (Args.cons (Arg.int .i64) (Args.one (Arg.int .i64))),fun a=>ref23_Size a,.pure,false⟩
theorem c5_ok:ConOK tab 5 c5:=Oc tab_5 rfl whileL [] trivial fun a=>by kernel_rfl
def stretch_Sizes_l1 (s:(Int×Int×(List Bool)×Int×Int×(List Int))):Option (Step (Int×Int×(List Bool)×Int×Int×(List Int)) ((List Int)×Int)):=
 bif decide (s.2.2.2.2.1<s.2.2.2.1) then
  (geti s.2.2.1 s.2.2.2.2.1).bind fun b0=>
  bif b0 then
   bif decide (s.2.1<64) then
    bif s.2.1==s.1 then
     (appendO s.2.2.2.2.2 [wrapF .i64 (2*s.1)]).bind fun l1=>
     some (.next (wrapF .i64 (2*s.1),wrapF .i64 (s.2.1+1),s.2.2.1,s.2.2.2.1,wrapF .i64 (s.2.2.2.2.1+1),l1))
    else
     (appendO s.2.2.2.2.2 [s.1]).bind fun l2=>
     some (.next (s.1,wrapF .i64 (s.2.1+1),s.2.2.1,s.2.2.2.1,wrapF .i64 (s.2.2.2.2.1+1),l2))
   else
    bif !b0 then
     bif decide (0<s.2.1) then
      bif decide (1<s.1) then
       bif decide ((wrapF .i64 (4*(wrapF .i64 (s.2.1-1))))<=s.1) then
        (appendO s.2.2.2.2.2 [wrapF .i64 (Int.tdiv s.1 2)]).bind fun l3=>
        some (.next (wrapF .i64 (Int.tdiv s.1 2),wrapF .i64 (s.2.1-1),s.2.2.1,s.2.2.2.1,wrapF .i64 (s.2.2.2.2.1+1),l3))
       else
        (appendO s.2.2.2.2.2 [s.1]).bind fun l4=>
        some (.next (s.1,wrapF .i64 (s.2.1-1),s.2.2.1,s.2.2.2.1,wrapF .i64 (s.2.2.2.2.1+1),l4))
      else
       (appendO s.2.2.2.2.2 [s.1]).bind fun l5=>
       some (.next (s.1,wrapF .i64 (s.2.1-1),s.2.2.1,s.2.2.2.1,wrapF .i64 (s.2.2.2.2.1+1),l5))
     else
      (appendO s.2.2.2.2.2 [s.1]).bind fun l6=>
      some (.next (s.1,s.2.1,s.2.2.1,s.2.2.2.1,wrapF .i64 (s.2.2.2.2.1+1),l6))
    else
     (appendO s.2.2.2.2.2 [s.1]).bind fun l7=>
     some (.next (s.1,s.2.1,s.2.2.1,s.2.2.2.1,wrapF .i64 (s.2.2.2.2.1+1),l7))
  else
   bif !b0 then
    bif decide (0<s.2.1) then
     bif decide (1<s.1) then
      bif decide ((wrapF .i64 (4*(wrapF .i64 (s.2.1-1))))<=s.1) then
       (appendO s.2.2.2.2.2 [wrapF .i64 (Int.tdiv s.1 2)]).bind fun l8=>
       some (.next (wrapF .i64 (Int.tdiv s.1 2),wrapF .i64 (s.2.1-1),s.2.2.1,s.2.2.2.1,wrapF .i64 (s.2.2.2.2.1+1),l8))
      else
       (appendO s.2.2.2.2.2 [s.1]).bind fun l9=>
       some (.next (s.1,wrapF .i64 (s.2.1-1),s.2.2.1,s.2.2.2.1,wrapF .i64 (s.2.2.2.2.1+1),l9))
     else
      (appendO s.2.2.2.2.2 [s.1]).bind fun l10=>
      some (.next (s.1,wrapF .i64 (s.2.1-1),s.2.2.1,s.2.2.2.1,wrapF .i64 (s.2.2.2.2.1+1),l10))
    else
     (appendO s.2.2.2.2.2 [s.1]).bind fun l11=>
     some (.next (s.1,s.2.1,s.2.2.1,s.2.2.2.1,wrapF .i64 (s.2.2.2.2.1+1),l11))
   else
    (appendO s.2.2.2.2.2 [s.1]).bind fun l12=>
    some (.next (s.1,s.2.1,s.2.2.1,s.2.2.2.1,wrapF .i64 (s.2.2.2.2.1+1),l12))
 else
  some (.done (s.2.2.2.2.2,0))
def stretch_Sizes (p0:List Bool):Option ((List Int)×Int):=
 bif decide (1000<(Int.ofNat p0.length)) then
  some ([],4)
 else
  whileO stretch_Sizes_l1 (1,0,p0,Int.ofNat p0.length,0,[])
def c6:Con:=⟨Args.one (Arg.sl kb),Arg.tup (Args.cons (Arg.sl ki) (Args.one (Arg.int .i64))),fun a=>stretch_Sizes a,.frz,false⟩
theorem c6_ok:ConOK tab 6 c6:=ConOK.of tab_6 (cx:=(mkCx whileL [] [] [(11,x11),(12,x12)] [])) rfl (CxOK.make trivial trivial ⟨tab_11,tab_12,trivial⟩) (fun a=>by kernel_rfl)
def ref23_held_l1 (s:((List Int)×Int×Int)):Option (Step ((List Int)×Int×Int) Int):=
 bif decide (s.2.2<(Int.ofNat s.1.length)) then
  (geti s.1 s.2.2).bind fun n0=>
  bif decide (0<=n0) then
   some (.next (s.1,wrapF .i64 (s.2.1+1),wrapF .i64 (s.2.2+1)))
  else
   some (.next (s.1,s.2.1,wrapF .i64 (s.2.2+1)))
 else
  some (.done s.2.1)
def ref23_held (p0:List Int):Option Int:=
 whileO ref23_held_l1 (p0,0,0)
def c15:Con:=⟨Args.one (Arg.sl ki),Arg.int .i64,fun a=>ref23_held a,.pure,false⟩
theorem c15_ok:ConOK tab 15 c15:=Oc tab_15 rfl whileL [] trivial fun a=>by kernel_rfl
def ref16_With_l1 (s:((List Int)×(List Int))):Option (Step ((List Int)×(List Int)) (Step ((List Int)×Int×Int×(List Int)) (List Int))):=
 bif decide ((Int.ofNat s.2.length)<(wrapF .i64 (2*(Int.ofNat s.1.length)))) then
  (appendO s.2 [-1]).bind fun l0=>
  some (.next (s.1,l0))
 else
  some (.done (.done s.2))
def ref16_With_l2 (s:((List Int)×Int×Int×(List Int))):Option (Step ((List Int)×Int×Int×(List Int)) (List Int)):=
 bif decide (s.2.2.1<(Int.ofNat s.2.2.2.length)) then
  (geti s.2.2.2 s.2.2.1).bind fun n0=>
  bif decide (n0<0) then
   (geti s.2.2.2 s.2.2.1).bind fun _=>
   some (.done (seti s.2.2.2 s.2.2.1 s.2.1))
  else
   some (.next (s.1,s.2.1,wrapF .i64 (s.2.2.1+1),s.2.2.2))
 else
  (appendO s.2.2.2 [s.2.1]).bind fun l2=>
  whileO ref16_With_l1 (s.1,l2)
def ref16_With (p0:List Int) (p1:Int):Option (List Int):=
 (cloneO p0).bind fun l0=>
 whileO ref16_With_l2 (p0,p1,0,l0)
def c16:Con:=⟨Args.cons (Arg.sl ki) (Args.one (Arg.int .i64)),Arg.sl ki,fun a=>ref16_With a.1 a.2,.own,true⟩
def c16p:Con:=⟨Args.cons (Arg.sl ki) (Args.one (Arg.int .i64)),Arg.sl ki,fun a=>ref16_With a.1 a.2,.frz,false⟩
theorem c16_ok:ConOK tab 16 c16:=Oc tab_16 rfl whileL [] trivial fun a=>by kernel_rfl
theorem c16p_ok:ConOK tab 16 c16p:=Oc tab_16 rfl whileL [] trivial fun a=>by kernel_rfl
def ref16_Without_l1 (s:((List Int)×(List Int))):Option (Step ((List Int)×(List Int)) (Step ((List Int)×Int×Int×(List Int)×(List Int)) (List Int))):=
 bif decide ((Int.ofNat s.2.length)<(wrapF .i64 (Int.tdiv (Int.ofNat s.1.length) 2))) then
  (appendO s.2 [-1]).bind fun l0=>
  some (.next (s.1,l0))
 else
  some (.done (.done s.2))
def ref16_Without_l2 (s:((List Int)×Int×Int×(List Int)×(List Int))):Option (Step ((List Int)×Int×Int×(List Int)×(List Int)) (List Int)):=
 bif decide (s.2.2.1<(Int.ofNat s.1.length)) then
  (geti s.1 s.2.2.1).bind fun n0=>
  bif n0==s.2.1 then
   (appendO s.2.2.2.1 [-1]).bind fun l1=>
   some (.next (s.1,s.2.1,wrapF .i64 (s.2.2.1+1),l1,s.2.2.2.2))
  else
   (appendO s.2.2.2.1 [n0]).bind fun l2=>
   bif decide (0<=n0) then
    (appendO s.2.2.2.2 [n0]).bind fun l3=>
    some (.next (s.1,s.2.1,wrapF .i64 (s.2.2.1+1),l2,l3))
   else
    some (.next (s.1,s.2.1,wrapF .i64 (s.2.2.1+1),l2,s.2.2.2.2))
 else
  bif (Int.ofNat s.1.length)==1 then
   some (.done s.2.2.2.1)
  else
   bif decide ((Int.ofNat s.1.length)<(wrapF .i64 (4*(Int.ofNat s.2.2.2.2.length)))) then
    some (.done s.2.2.2.1)
   else
    whileO ref16_Without_l1 (s.1,s.2.2.2.2)
def ref16_Without (p0:List Int) (p1:Int):Option (List Int):=
 whileO ref16_Without_l2 (p0,p1,0,[],[])
def c17:Con:=⟨Args.cons (Arg.sl ki) (Args.one (Arg.int .i64)),Arg.sl ki,fun a=>ref16_Without a.1 a.2,.own,true⟩
def c17p:Con:=⟨Args.cons (Arg.sl ki) (Args.one (Arg.int .i64)),Arg.sl ki,fun a=>ref16_Without a.1 a.2,.frz,false⟩
theorem c17_ok:ConOK tab 17 c17:=Oc tab_17 rfl whileL [] trivial fun a=>by kernel_rfl
theorem c17p_ok:ConOK tab 17 c17p:=Oc tab_17 rfl whileL [] trivial fun a=>by kernel_rfl
def ref23_Went_l1 (s:((List Bool)×Int×Int×Int×(List Int)×(List Int)×(List Int))):Option (Step ((List Bool)×Int×Int×Int×(List Int)×(List Int)×(List Int)) (Step ((List Bool)×Int×Int×(List Int)×(List Int)) ((List Int)×Int))):=
 bif decide (s.2.2.2.1<(Int.ofNat s.2.2.2.2.2.2.length)) then
  (geti s.2.2.2.2.2.2 s.2.2.2.1).bind fun n0=>
  bif decide (0<=n0) then
   (geti s.2.2.2.2.2.2 s.2.2.2.1).bind fun n1=>
   (ref16_Without s.2.2.2.2.1 n1).bind fun l2=>
   bif decide ((Int.ofNat l2.length)<(Int.ofNat s.2.2.2.2.2.2.length)) then
    (ref23_held l2).bind fun n3=>
    (appendO s.2.2.2.2.2.1 [Int.ofNat l2.length]).bind fun l4=>
    some (.done (.next (s.1,wrapF .i64 (s.2.1+n3),wrapF .i64 (s.2.2.1+1),l2,l4)))
   else
    (appendO s.2.2.2.2.2.1 [Int.ofNat l2.length]).bind fun l5=>
    some (.done (.next (s.1,s.2.1,wrapF .i64 (s.2.2.1+1),l2,l5)))
  else
   some (.next (s.1,s.2.1,s.2.2.1,wrapF .i64 (s.2.2.2.1+1),s.2.2.2.2))
 else
  bif decide ((Int.ofNat s.2.2.2.2.1.length)<(Int.ofNat s.2.2.2.2.2.2.length)) then
   (ref23_held s.2.2.2.2.1).bind fun n6=>
   (appendO s.2.2.2.2.2.1 [Int.ofNat s.2.2.2.2.1.length]).bind fun l7=>
   some (.done (.next (s.1,wrapF .i64 (s.2.1+n6),wrapF .i64 (s.2.2.1+1),s.2.2.2.2.1,l7)))
  else
   (appendO s.2.2.2.2.2.1 [Int.ofNat s.2.2.2.2.1.length]).bind fun l8=>
   some (.done (.next (s.1,s.2.1,wrapF .i64 (s.2.2.1+1),s.2.2.2.2.1,l8)))
def ref23_Went_l2 (s:((List Bool)×Int×Int×Int×(List Int)×(List Int))):Option (Step ((List Bool)×Int×Int×Int×(List Int)×(List Int)) (Step ((List Bool)×Int×Int×(List Int)×(List Int)) ((List Int)×Int))):=
 bif decide (s.2.2.2.1<(Int.ofNat s.2.2.2.2.1.length)) then
  (geti s.2.2.2.2.1 s.2.2.2.1).bind fun n0=>
  bif decide (0<=n0) then
   (geti s.2.2.2.2.1 s.2.2.2.1).bind fun n1=>
   (ref16_Without s.2.2.2.2.1 n1).bind fun l2=>
   bif decide ((Int.ofNat l2.length)<(Int.ofNat s.2.2.2.2.1.length)) then
    (ref23_held l2).bind fun n3=>
    (appendO s.2.2.2.2.2 [Int.ofNat l2.length]).bind fun l4=>
    some (.done (.next (s.1,wrapF .i64 (s.2.1+n3),wrapF .i64 (s.2.2.1+1),l2,l4)))
   else
    (appendO s.2.2.2.2.2 [Int.ofNat l2.length]).bind fun l5=>
    some (.done (.next (s.1,s.2.1,wrapF .i64 (s.2.2.1+1),l2,l5)))
  else
   some (.next (s.1,s.2.1,s.2.2.1,wrapF .i64 (s.2.2.2.1+1),s.2.2.2.2))
 else
  bif decide ((Int.ofNat s.2.2.2.2.1.length)<(Int.ofNat s.2.2.2.2.1.length)) then
   (ref23_held s.2.2.2.2.1).bind fun n6=>
   (appendO s.2.2.2.2.2 [Int.ofNat s.2.2.2.2.1.length]).bind fun l7=>
   some (.done (.next (s.1,wrapF .i64 (s.2.1+n6),wrapF .i64 (s.2.2.1+1),s.2.2.2.2.1,l7)))
  else
   (appendO s.2.2.2.2.2 [Int.ofNat s.2.2.2.2.1.length]).bind fun l8=>
   some (.done (.next (s.1,s.2.1,wrapF .i64 (s.2.2.1+1),s.2.2.2.2.1,l8)))
def ref23_Went_l3 (s:((List Bool)×Int×Int×(List Int)×(List Int))):Option (Step ((List Bool)×Int×Int×(List Int)×(List Int)) ((List Int)×Int)):=
 bif decide (s.2.2.1<(Int.ofNat s.1.length)) then
  (geti s.1 s.2.2.1).bind fun b0=>
  bif b0 then
   (ref23_held s.2.2.2.1).bind fun n1=>
   bif decide (n1<64) then
    (ref16_With s.2.2.2.1 s.2.2.1).bind fun l2=>
    bif decide ((Int.ofNat s.2.2.2.1.length)<(Int.ofNat l2.length)) then
     (ref23_held s.2.2.2.1).bind fun n3=>
     (geti s.1 s.2.2.1).bind fun b4=>
     bif !b4 then
      whileO ref23_Went_l1 (s.1,wrapF .i64 (s.2.1+n3),s.2.2.1,0,l2,s.2.2.2.2,s.2.2.2.1)
     else
      (appendO s.2.2.2.2 [Int.ofNat l2.length]).bind fun l5=>
      some (.next (s.1,wrapF .i64 (s.2.1+n3),wrapF .i64 (s.2.2.1+1),l2,l5))
    else
     (geti s.1 s.2.2.1).bind fun b6=>
     bif !b6 then
      whileO ref23_Went_l1 (s.1,s.2.1,s.2.2.1,0,l2,s.2.2.2.2,s.2.2.2.1)
     else
      (appendO s.2.2.2.2 [Int.ofNat l2.length]).bind fun l7=>
      some (.next (s.1,s.2.1,wrapF .i64 (s.2.2.1+1),l2,l7))
   else
    (geti s.1 s.2.2.1).bind fun b8=>
    bif !b8 then
     whileO ref23_Went_l2 (s.1,s.2.1,s.2.2.1,0,s.2.2.2)
    else
     (appendO s.2.2.2.2 [Int.ofNat s.2.2.2.1.length]).bind fun l9=>
     some (.next (s.1,s.2.1,wrapF .i64 (s.2.2.1+1),s.2.2.2.1,l9))
  else
   (geti s.1 s.2.2.1).bind fun b10=>
   bif !b10 then
    whileO ref23_Went_l2 (s.1,s.2.1,s.2.2.1,0,s.2.2.2)
   else
    (appendO s.2.2.2.2 [Int.ofNat s.2.2.2.1.length]).bind fun l11=>
    some (.next (s.1,s.2.1,wrapF .i64 (s.2.2.1+1),s.2.2.2.1,l11))
 else
  some (.done (s.2.2.2.2,s.2.1))
def ref23_Went (p0:List Bool):Option ((List Int)×Int):=
 whileO ref23_Went_l3 (p0,0,0,[-1],[])
def c13:Con:=⟨Args.one (Arg.sl kb),Arg.tup (Args.cons (Arg.sl ki) (Args.one (Arg.int .i64))),fun a=>ref23_Went a,.frz,false⟩
theorem c13_ok:ConOK tab 13 c13:=Oc tab_13 rfl whileL [(15,c15),(16,c16),(16,c16p),(17,c17),(17,c17p)] ⟨c15_ok,c16_ok,c16p_ok,c17_ok,c17p_ok,trivial⟩ fun a=>by kernel_rfl
def ref23_Sizes (p0:List Bool):Option ((List Int)×Int):=
 bif decide (1000<(Int.ofNat p0.length)) then
  some ([],4)
 else
  (ref23_Went p0).bind fun a0=>
  some (a0.1,0)
def c7:Con:=⟨Args.one (Arg.sl kb),Arg.tup (Args.cons (Arg.sl ki) (Args.one (Arg.int .i64))),fun a=>ref23_Sizes a,.frz,false⟩
theorem c7_ok:ConOK tab 7 c7:=Oc tab_7 rfl whileL [(13,c13)] ⟨c13_ok,trivial⟩ fun a=>by kernel_rfl
def stretch_Moves_l1 (s:(Int×Int×(List Bool)×Int×Int×Int)):Option (Step (Int×Int×(List Bool)×Int×Int×Int) (Int×Int)):=
 bif decide (s.2.2.2.2.1<s.2.2.2.1) then
  (geti s.2.2.1 s.2.2.2.2.1).bind fun b0=>
  bif b0 then
   bif decide (s.2.1<64) then
    bif s.2.1==s.1 then
     some (.next (wrapF .i64 (2*s.1),wrapF .i64 (s.2.1+1),s.2.2.1,s.2.2.2.1,wrapF .i64 (s.2.2.2.2.1+1),wrapF .i64 (s.2.2.2.2.2+s.2.1)))
    else
     some (.next (s.1,wrapF .i64 (s.2.1+1),s.2.2.1,s.2.2.2.1,wrapF .i64 (s.2.2.2.2.1+1),wrapF .i64 (s.2.2.2.2.2+0)))
   else
    bif !b0 then
     bif decide (0<s.2.1) then
      bif decide (1<s.1) then
       bif decide ((wrapF .i64 (4*(wrapF .i64 (s.2.1-1))))<=s.1) then
        some (.next (wrapF .i64 (Int.tdiv s.1 2),wrapF .i64 (s.2.1-1),s.2.2.1,s.2.2.2.1,wrapF .i64 (s.2.2.2.2.1+1),wrapF .i64 (s.2.2.2.2.2+(wrapF .i64 (s.2.1-1)))))
       else
        some (.next (s.1,wrapF .i64 (s.2.1-1),s.2.2.1,s.2.2.2.1,wrapF .i64 (s.2.2.2.2.1+1),wrapF .i64 (s.2.2.2.2.2+0)))
      else
       some (.next (s.1,wrapF .i64 (s.2.1-1),s.2.2.1,s.2.2.2.1,wrapF .i64 (s.2.2.2.2.1+1),wrapF .i64 (s.2.2.2.2.2+0)))
     else
      some (.next (s.1,s.2.1,s.2.2.1,s.2.2.2.1,wrapF .i64 (s.2.2.2.2.1+1),wrapF .i64 (s.2.2.2.2.2+0)))
    else
     some (.next (s.1,s.2.1,s.2.2.1,s.2.2.2.1,wrapF .i64 (s.2.2.2.2.1+1),wrapF .i64 (s.2.2.2.2.2+0)))
  else
   bif !b0 then
    bif decide (0<s.2.1) then
     bif decide (1<s.1) then
      bif decide ((wrapF .i64 (4*(wrapF .i64 (s.2.1-1))))<=s.1) then
       some (.next (wrapF .i64 (Int.tdiv s.1 2),wrapF .i64 (s.2.1-1),s.2.2.1,s.2.2.2.1,wrapF .i64 (s.2.2.2.2.1+1),wrapF .i64 (s.2.2.2.2.2+(wrapF .i64 (s.2.1-1)))))
      else
       some (.next (s.1,wrapF .i64 (s.2.1-1),s.2.2.1,s.2.2.2.1,wrapF .i64 (s.2.2.2.2.1+1),wrapF .i64 (s.2.2.2.2.2+0)))
     else
      some (.next (s.1,wrapF .i64 (s.2.1-1),s.2.2.1,s.2.2.2.1,wrapF .i64 (s.2.2.2.2.1+1),wrapF .i64 (s.2.2.2.2.2+0)))
    else
     some (.next (s.1,s.2.1,s.2.2.1,s.2.2.2.1,wrapF .i64 (s.2.2.2.2.1+1),wrapF .i64 (s.2.2.2.2.2+0)))
   else
    some (.next (s.1,s.2.1,s.2.2.1,s.2.2.2.1,wrapF .i64 (s.2.2.2.2.1+1),wrapF .i64 (s.2.2.2.2.2+0)))
 else
  some (.done (s.2.2.2.2.2,0))
def stretch_Moves (p0:List Bool):Option (Int×Int):=
 bif decide (1000<(Int.ofNat p0.length)) then
  some (0,4)
 else
  whileO stretch_Moves_l1 (1,0,p0,Int.ofNat p0.length,0,0)
def c8:Con:=⟨Args.one (Arg.sl kb),Arg.tup (Args.cons (Arg.int .i64) (Args.one (Arg.int .i64))),fun a=>stretch_Moves a,.pure,false⟩
theorem c8_ok:ConOK tab 8 c8:=ConOK.of tab_8 (cx:=(mkCx whileL [] [] [(11,x11),(14,x14)] [])) rfl (CxOK.make trivial trivial ⟨tab_11,tab_14,trivial⟩) (fun a=>by kernel_rfl)
def ref23_Moves (p0:List Bool):Option (Int×Int):=
 bif decide (1000<(Int.ofNat p0.length)) then
  some (0,4)
 else
  (ref23_Went p0).bind fun a0=>
  some (a0.2,0)
def c9:Con:=⟨Args.one (Arg.sl kb),Arg.tup (Args.cons (Arg.int .i64) (Args.one (Arg.int .i64))),fun a=>ref23_Moves a,.pure,false⟩
theorem c9_ok:ConOK tab 9 c9:=Oc tab_9 rfl whileL [(13,c13)] ⟨c13_ok,trivial⟩ fun a=>by kernel_rfl
def ref03_SameIDs_l1 (s:((List Int)×(List Int)×Int)):Option (Step ((List Int)×(List Int)×Int) Bool):=
 bif decide (s.2.2<(Int.ofNat s.1.length)) then
  (geti s.1 s.2.2).bind fun n0=>
  (geti s.2.1 s.2.2).bind fun n1=>
  bif n0 !=n1 then
   some (.done false)
  else
   some (.next (s.1,s.2.1,wrapF .i64 (s.2.2+1)))
 else
  some (.done true)
def ref03_SameIDs (p0:List Int) (p1:List Int):Option Bool:=
 bif (Int.ofNat p0.length) !=(Int.ofNat p1.length) then
  some false
 else
  whileO ref03_SameIDs_l1 (p0,p1,0)
def c10:Con:=⟨Args.cons (Arg.sl ki) (Args.one (Arg.sl ki)),Arg.bool,fun a=>ref03_SameIDs a.1 a.2,.pure,false⟩
theorem c10_ok:ConOK tab 10 c10:=Oc tab_10 rfl whileL [] trivial fun a=>by kernel_rfl
def law23_StretchSizes (p0:Int) (p1:List Bool):Option Bool:=
 bif decide (300<(Int.ofNat p1.length)) then
  bif decide ((Int.ofNat p1.length)<=1000) then
   some true
  else
   bif decide (1100<(Int.ofNat p1.length)) then
    some true
   else
    (stretch_Size p0).bind fun a0=>
    (ref23_Size p0).bind fun a1=>
    (stretch_Sizes p1).bind fun a2=>
    (ref23_Sizes p1).bind fun a3=>
    (stretch_Moves p1).bind fun a4=>
    (ref23_Moves p1).bind fun a5=>
    bif a0.1==a1.1 then
     bif a0.2==a1.2 then
      (ref03_SameIDs a2.1 a3.1).bind fun b6=>
      bif b6 then
       bif a2.2==a3.2 then
        bif a4.1==a5.1 then
         some (a4.2==a5.2)
        else
         some false
       else
        some false
      else
       some false
     else
      some false
    else
     some false
 else
  bif decide (1100<(Int.ofNat p1.length)) then
   some true
  else
   (stretch_Size p0).bind fun a7=>
   (ref23_Size p0).bind fun a8=>
   (stretch_Sizes p1).bind fun a9=>
   (ref23_Sizes p1).bind fun a10=>
   (stretch_Moves p1).bind fun a11=>
   (ref23_Moves p1).bind fun a12=>
   bif a7.1==a8.1 then
    bif a7.2==a8.2 then
     (ref03_SameIDs a9.1 a10.1).bind fun b13=>
     bif b13 then
      bif a9.2==a10.2 then
       bif a11.1==a12.1 then
        some (a11.2==a12.2)
       else
        some false
      else
       some false
     else
      some false
    else
     some false
   else
    some false
def c3:Con:=⟨Args.cons (Arg.int .i64) (Args.one (Arg.sl kb)),Arg.bool,fun a=>law23_StretchSizes a.1 a.2,.pure,false⟩
theorem c3_ok:ConOK tab 3 c3:=Oc tab_3 rfl whileL [(4,c4),(5,c5),(6,c6),(7,c7),(8,c8),(9,c9),(10,c10)] ⟨c4_ok,c5_ok,c6_ok,c7_ok,c8_ok,c9_ok,c10_ok,trivial⟩ fun a=>by kernel_rfl
end
end Go.Proofs.Ytmlghnibpjlchab
