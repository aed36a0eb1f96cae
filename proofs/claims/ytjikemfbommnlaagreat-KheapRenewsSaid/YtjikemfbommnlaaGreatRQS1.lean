/- Plain functions for what the functions of the seat compute. Printed by a program. -/
import Derived.Test.YtjikemfbommnlaaGreatRVm3
import Derived.Test.YtjikemfbommnlaaGreatRQXT
set_option maxRecDepth 100000
namespace Go.Proofs.YtjikemfbommnlaaGreat
open Go.Vm
noncomputable section
theorem Oc {f:FuncId} {x:XFunc} {α β:Type} {args:Args α} {res:Arg β} {kd:Kd} {fn:α->Option β} {ow:Bool} (hf:tab f=some (.code x)) (ho:owOK kd ow=true) (lp:Option Nat) (l:List (Nat×Con)) (h:ConsOK tab l) (e: ∀a,evTop (mkCx lp l [] [] []) x args res kd a=fn a):ConOK tab f ⟨args,res,fn,kd,ow⟩:=ConOK.of hf (cx:=mkCx lp l [] [] []) ho (CxOK.make h trivial trivial) e
abbrev kiii:List PT:=[.i .i64,.i .i64,.i .i64]
abbrev ki:List PT:=[.i .i64]
abbrev kb:List PT:=[.b]
abbrev kiiiii:List PT:=[.i .i64,.i .i64,.i .i64,.i .i64,.i .i64]
abbrev kii:List PT:=[.i .i64,.i .i64]
abbrev kbuu:List PT:=[.b,.i .u64,.i .u64]
abbrev kiiii:List PT:=[.i .i64,.i .i64,.i .i64,.i .i64]
abbrev kiu:List PT:=[.i .i64,.i .u64]
structure Field where
 points:List (Int×Int×Int)
def Field_c:Cod Field:=Cod.iso (Cod.sl kiii) (fun p=>⟨p⟩) (fun c=>c.points) (fun _=>rfl)
structure Slots where
 uses:List Int
 used:List Bool
 free:List Int
def Slots_c:Cod Slots:=Cod.iso (Cod.prod (Cod.sl ki) (Cod.prod (Cod.sl kb) (Cod.sl ki))) (fun p=>⟨p.1,p.2.1,p.2.2⟩) (fun c=>(c.uses,c.used,c.free)) (fun _=>rfl)
structure Agenda where
 slots:Slots
 heap:List (Int×Int×Int×Int×Int)
 where_:List Int
def Agenda_c:Cod Agenda:=Cod.iso (Cod.prod Slots_c (Cod.prod (Cod.sl kiiiii) (Cod.sl ki))) (fun p=>⟨p.1,p.2.1,p.2.2⟩) (fun c=>(c.slots,c.heap,c.where_)) (fun _=>rfl)
structure Certs where
 next_:Int
 list:List (Int×Int×Int)
def Certs_c:Cod Certs:=Cod.iso (Cod.prod (Cod.int .i64) (Cod.sl kiii)) (fun p=>⟨p.1,p.2⟩) (fun c=>(c.next_,c.list)) (fun _=>rfl)
structure Clock where
 now:Int×Int
 field:Field
 certs:Certs
 agenda:Agenda
 due:List (Int×Int×Int)
def Clock_c:Cod Clock:=Cod.iso (Cod.prod (Cod.row kii) (Cod.prod Field_c (Cod.prod Certs_c (Cod.prod Agenda_c (Cod.sl kiii))))) (fun p=>⟨p.1,p.2.1,p.2.2.1,p.2.2.2.1,p.2.2.2.2⟩) (fun c=>(c.now,c.field,c.certs,c.agenda,c.due)) (fun _=>rfl)
def ref03_Great (p0:Field):Option Bool:=
 bif decide (16<(Int.ofNat p0.points.length)) then
  bif decide ((Int.ofNat p0.points.length)<64) then
   some true
  else
   some (decide (70<(Int.ofNat p0.points.length)))
 else
  some (decide (70<(Int.ofNat p0.points.length)))
def c5:Con:=⟨Args.one (Arg.agg Field_c),Arg.bool,fun a=>ref03_Great a,.pure,false⟩
theorem c5_ok:ConOK tab 5 c5:=Oc tab_5 rfl whileL [] trivial fun a=>by kernel_rfl
def ref06_Great (p0:Slots):Option Bool:=
 bif decide (210<(Int.ofNat p0.uses.length)) then
  some true
 else
  bif decide (210<(Int.ofNat p0.used.length)) then
   some true
  else
   some (decide (210<(Int.ofNat p0.free.length)))
def c27:Con:=⟨Args.one (Arg.agg Slots_c),Arg.bool,fun a=>ref06_Great a,.pure,false⟩
theorem c27_ok:ConOK tab 27 c27:=Oc tab_27 rfl whileL [] trivial fun a=>by kernel_rfl
def ref07_Great (p0:Agenda):Option Bool:=
 (ref06_Great p0.slots).bind fun b0=>
 bif b0 then
  some true
 else
  bif decide (210<(Int.ofNat p0.heap.length)) then
   some true
  else
   some (decide (210<(Int.ofNat p0.where_.length)))
def c10:Con:=⟨Args.one (Arg.agg Agenda_c),Arg.bool,fun a=>ref07_Great a,.pure,false⟩
theorem c10_ok:ConOK tab 10 c10:=Oc tab_10 rfl whileL [(27,c27)] ⟨c27_ok,trivial⟩ fun a=>by kernel_rfl
def ref09_Great (p0:Clock):Option Bool:=
 bif decide (40<(Int.ofNat p0.certs.list.length)) then
  some true
 else
  bif decide (40<(Int.ofNat p0.due.length)) then
   some true
  else
   (ref03_Great p0.field).bind fun b0=>
   bif b0 then
    some true
   else
    (ref07_Great p0.agenda).bind fun b1=>
    some b1
def c4:Con:=⟨Args.one (Arg.agg Clock_c),Arg.bool,fun a=>ref09_Great a,.pure,false⟩
theorem c4_ok:ConOK tab 4 c4:=Oc tab_4 rfl whileL [(5,c5),(10,c10)] ⟨c5_ok,c10_ok,trivial⟩ fun a=>by kernel_rfl
def ref03_Twin (p0:Field):Option Field:=
 (cloneO p0.points).bind fun l0=>
 some (Field.mk l0)
def c11:Con:=⟨Args.one (Arg.agg Field_c),Arg.agg Field_c,fun a=>ref03_Twin a,.own,true⟩
def c11p:Con:=⟨Args.one (Arg.agg Field_c),Arg.agg Field_c,fun a=>ref03_Twin a,.frz,false⟩
theorem c11_ok:ConOK tab 11 c11:=Oc tab_11 rfl whileL [] trivial fun a=>by kernel_rfl
theorem c11p_ok:ConOK tab 11 c11p:=Oc tab_11 rfl whileL [] trivial fun a=>by kernel_rfl
def ref08_Twin (p0:Certs):Option Certs:=
 (cloneO p0.list).bind fun l0=>
 some (Certs.mk p0.next_ l0)
def c12:Con:=⟨Args.one (Arg.agg Certs_c),Arg.agg Certs_c,fun a=>ref08_Twin a,.own,true⟩
def c12p:Con:=⟨Args.one (Arg.agg Certs_c),Arg.agg Certs_c,fun a=>ref08_Twin a,.frz,false⟩
theorem c12_ok:ConOK tab 12 c12:=Oc tab_12 rfl whileL [] trivial fun a=>by kernel_rfl
theorem c12p_ok:ConOK tab 12 c12p:=Oc tab_12 rfl whileL [] trivial fun a=>by kernel_rfl
def ref06_Twin (p0:Slots):Option Slots:=
 (cloneO p0.uses).bind fun l0=>
 (cloneO p0.used).bind fun l1=>
 (cloneO p0.free).bind fun l2=>
 some (Slots.mk l0 l1 l2)
def c28:Con:=⟨Args.one (Arg.agg Slots_c),Arg.agg Slots_c,fun a=>ref06_Twin a,.own,true⟩
def c28p:Con:=⟨Args.one (Arg.agg Slots_c),Arg.agg Slots_c,fun a=>ref06_Twin a,.frz,false⟩
theorem c28_ok:ConOK tab 28 c28:=Oc tab_28 rfl whileL [] trivial fun a=>by kernel_rfl
theorem c28p_ok:ConOK tab 28 c28p:=Oc tab_28 rfl whileL [] trivial fun a=>by kernel_rfl
def ref07_Twin (p0:Agenda):Option Agenda:=
 (ref06_Twin p0.slots).bind fun r0=>
 (cloneO p0.heap).bind fun l1=>
 (cloneO p0.where_).bind fun l2=>
 some (Agenda.mk r0 l1 l2)
def c13:Con:=⟨Args.one (Arg.agg Agenda_c),Arg.agg Agenda_c,fun a=>ref07_Twin a,.own,true⟩
def c13p:Con:=⟨Args.one (Arg.agg Agenda_c),Arg.agg Agenda_c,fun a=>ref07_Twin a,.frz,false⟩
theorem c13_ok:ConOK tab 13 c13:=Oc tab_13 rfl whileL [(28,c28),(28,c28p)] ⟨c28_ok,c28p_ok,trivial⟩ fun a=>by kernel_rfl
theorem c13p_ok:ConOK tab 13 c13p:=Oc tab_13 rfl whileL [(28,c28),(28,c28p)] ⟨c28_ok,c28p_ok,trivial⟩ fun a=>by kernel_rfl
def ref09_Twin (p0:Clock):Option Clock:=
 (ref03_Twin p0.field).bind fun r0=>
 (ref08_Twin p0.certs).bind fun r1=>
 (ref07_Twin p0.agenda).bind fun r2=>
 (cloneO p0.due).bind fun l3=>
 some (Clock.mk p0.now r0 r1 r2 l3)
def c6:Con:=⟨Args.one (Arg.agg Clock_c),Arg.agg Clock_c,fun a=>ref09_Twin a,.own,true⟩
def c6p:Con:=⟨Args.one (Arg.agg Clock_c),Arg.agg Clock_c,fun a=>ref09_Twin a,.frz,false⟩
theorem c6_ok:ConOK tab 6 c6:=Oc tab_6 rfl whileL [(11,c11),(11,c11p),(12,c12),(12,c12p),(13,c13),(13,c13p)] ⟨c11_ok,c11p_ok,c12_ok,c12p_ok,c13_ok,c13p_ok,trivial⟩ fun a=>by kernel_rfl
theorem c6p_ok:ConOK tab 6 c6p:=Oc tab_6 rfl whileL [(11,c11),(11,c11p),(12,c12),(12,c12p),(13,c13),(13,c13p)] ⟨c11_ok,c11p_ok,c12_ok,c12p_ok,c13_ok,c13p_ok,trivial⟩ fun a=>by kernel_rfl
def ratio_abs (p0:Int):Option Int:=
 bif decide (p0<0) then
  some (wrapF .u64 (0- (wrapF .u64 p0)))
 else
  some (wrapF .u64 p0)
def c65:Con:=⟨Args.one (Arg.int .i64),Arg.int .u64,fun a=>ratio_abs a,.pure,false⟩
theorem c65_ok:ConOK tab 65 c65:=Oc tab_65 rfl whileL [] trivial fun a=>by kernel_rfl
def ratio_gcd_l1 (s:(Int×Int)):Option (Step (Int×Int) Int):=
 bif decide (0<s.2) then
  bif s.2==0 then
   none
  else
   some (.next (s.2,Int.tmod s.1 s.2))
 else
  some (.done s.1)
def ratio_gcd (p0:Int) (p1:Int):Option Int:=
 whileO ratio_gcd_l1 (p0,p1)
def c64:Con:=⟨Args.cons (Arg.int .u64) (Args.one (Arg.int .u64)),Arg.int .u64,fun a=>ratio_gcd a.1 a.2,.pure,false⟩
theorem c64_ok:ConOK tab 64 c64:=Oc tab_64 rfl whileL [] trivial fun a=>by kernel_rfl
def ratio_Check (p0:Int×Int):Option Int:=
 bif decide (p0.2<1) then
  some 8
 else
  bif p0.1==(-9223372036854775808) then
   some 8
  else
   (ratio_abs p0.1).bind fun n0=>
   (ratio_gcd (wrapF .u64 p0.2) n0).bind fun n1=>
   bif decide (1<n1) then
    some 8
   else
    some 0
def c29:Con:=⟨Args.one (Arg.agg (Cod.row kii)),Arg.int .i64,fun a=>ratio_Check a,.pure,false⟩
theorem c29_ok:ConOK tab 29 c29:=Oc tab_29 rfl whileL [(65,c65),(64,c64)] ⟨c65_ok,c64_ok,trivial⟩ fun a=>by kernel_rfl
def course_Check_1 (p0:Int):Option Bool:=
 bif decide (p0<(-1048576)) then
  some true
 else
  some (decide (1048576<p0))
def c71:Con:=⟨Args.one (Arg.int .i64),Arg.bool,fun a=>course_Check_1 a,.pure,false⟩
theorem c71_ok:ConOK tab 71 c71:=Oc tab_71 rfl whileL [] trivial fun a=>by kernel_rfl
def course_Check (p0:Int×Int×Int):Option Int:=
 bif decide (p0.1<0) then
  some 8
 else
  bif decide (65535<p0.1) then
   some 8
  else
   (course_Check_1 p0.2.1).bind fun b0=>
   bif b0 then
    some 8
   else
    (course_Check_1 p0.2.2).bind fun b1=>
    bif b1 then
     some 8
    else
     some 0
def c33:Con:=⟨Args.one (Arg.agg (Cod.row kiii)),Arg.int .i64,fun a=>course_Check a,.pure,false⟩
theorem c33_ok:ConOK tab 33 c33:=Oc tab_33 rfl whileL [(71,c71)] ⟨c71_ok,trivial⟩ fun a=>by kernel_rfl
def field_Check_l1 (s:((List (Int×Int×Int))×Int×Int×(List (Int×Int×Int)))):Option (Step ((List (Int×Int×Int))×Int×Int×(List (Int×Int×Int))) (Step ((List (Int×Int×Int))×Int×Int×(List (Int×Int×Int))) Int)):=
 bif decide (s.2.2.1<s.2.1) then
  (geti s.1 s.2.2.1).bind fun a0=>
  bif decide (0<s.2.2.1) then
   (geti s.2.2.2 (wrapF .i64 (s.2.2.1-1))).bind fun a1=>
   bif decide (a0.1<=a1.1) then
    some (.done (.done 32))
   else
    some (.next (s.1,s.2.1,wrapF .i64 (s.2.2.1+1),s.2.2.2))
  else
   some (.next (s.1,s.2.1,wrapF .i64 (s.2.2.1+1),s.2.2.2))
 else
  some (.done (.done 0))
def field_Check_l2 (s:((List (Int×Int×Int))×Int×Int×(List (Int×Int×Int)))):Option (Step ((List (Int×Int×Int))×Int×Int×(List (Int×Int×Int))) Int):=
 bif decide (s.2.2.1<s.2.1) then
  (geti s.1 s.2.2.1).bind fun a0=>
  (course_Check a0).bind fun n1=>
  bif n1 !=0 then
   some (.done n1)
  else
   some (.next (s.1,s.2.1,wrapF .i64 (s.2.2.1+1),s.2.2.2))
 else
  whileO field_Check_l1 (s.2.2.2,Int.ofNat s.2.2.2.length,0,s.2.2.2)
def field_Check (p0:Field):Option Int:=
 bif decide (64<(Int.ofNat p0.points.length)) then
  some 4
 else
  whileO field_Check_l2 (p0.points,Int.ofNat p0.points.length,0,p0.points)
def c15:Con:=⟨Args.one (Arg.agg Field_c),Arg.int .i64,fun a=>field_Check a,.pure,false⟩
theorem c15_ok:ConOK tab 15 c15:=Oc tab_15 rfl whileL [(33,c33)] ⟨c33_ok,trivial⟩ fun a=>by kernel_rfl
def cert_valid (p0:Int×Int):Option Bool:=
 bif decide (0<=(if p0.2<p0.1 then p0.2 else p0.1)) then
  bif decide ((if p0.2>p0.1 then p0.2 else p0.1)<=65535) then
   some (p0.1 !=p0.2)
  else
   some false
 else
  some false
def c66:Con:=⟨Args.one (Arg.agg (Cod.row kii)),Arg.bool,fun a=>cert_valid a,.pure,false⟩
theorem c66_ok:ConOK tab 66 c66:=Oc tab_66 rfl whileL [] trivial fun a=>by kernel_rfl
def cert_Check_l1 (s:(Int×(List (Int×Int×Int))×Int×Int×Int×(List (Int×Int×Int))×(List (List Int)))):Option (Step (Int×(List (Int×Int×Int))×Int×Int×Int×(List (Int×Int×Int))×(List (List Int))) Int):=
 bif decide (s.2.2.2.1<s.2.2.1) then
  (geti s.2.1 s.2.2.2.1).bind fun a0=>
  (cert_valid a0.2).bind fun b1=>
  bif !b1 then
   some (.done 8)
  else
   (hasO s.2.2.2.2.2.2 [a0.2.1,a0.2.2]).bind fun b2=>
   bif b2 then
    some (.done 8)
   else
    bif decide (a0.1<=s.1) then
     some (.done 8)
    else
     bif decide (s.2.2.2.2.1<=a0.1) then
      some (.done 8)
     else
      (insO s.2.2.2.2.2.2 [a0.2.1,a0.2.2]).bind fun l3=>
      some (.next (a0.1,s.2.1,s.2.2.1,wrapF .i64 (s.2.2.2.1+1),s.2.2.2.2.1,s.2.2.2.2.2.1,l3))
 else
  some (.done 0)
def cert_Check (p0:Certs):Option Int:=
 bif decide (200<(Int.ofNat p0.list.length)) then
  some 8
 else
  bif decide (p0.next_<0) then
   some 8
  else
   bif decide (1000000<p0.next_) then
    some 8
   else
    whileO cert_Check_l1 (-1,p0.list,Int.ofNat p0.list.length,0,p0.next_,p0.list,[])
def c30:Con:=⟨Args.one (Arg.agg Certs_c),Arg.int .i64,fun a=>cert_Check a,.pure,false⟩
theorem c30_ok:ConOK tab 30 c30:=Oc tab_30 rfl whileL [(66,c66)] ⟨c66_ok,trivial⟩ fun a=>by kernel_rfl
theorem prim_47:ConOK tab 47 (Con.clone kb):=ConOK.clone tab_47 rfl
def slices_Index_bool_l1 (s:((List Bool)×Bool×Int×Int)):Option (Step ((List Bool)×Bool×Int×Int) Int):=
 bif decide (s.2.2.2<s.2.2.1) then
  (geti s.1 s.2.2.2).bind fun b0=>
  bif s.2.1==b0 then
   some (.done s.2.2.2)
  else
   some (.next (s.1,s.2.1,s.2.2.1,wrapF .i64 (s.2.2.2+1)))
 else
  some (.done (-1))
def slices_Index_bool (p0:List Bool) (p1:Bool):Option Int:=
 whileO slices_Index_bool_l1 (p0,p1,Int.ofNat p0.length,0)
def c130:Con:=⟨Args.cons (Arg.sl kb) (Args.one Arg.bool),Arg.int .i64,fun a=>slices_Index_bool a.1 a.2,.pure,false⟩
theorem c130_ok:ConOK tab 130 c130:=Oc tab_130 rfl whileL [] trivial fun a=>by kernel_rfl
def slices_Contains_bool (p0:List Bool) (p1:Bool):Option Bool:=
 (slices_Index_bool p0 p1).bind fun n0=>
 some (decide (0<=n0))
def c99:Con:=⟨Args.cons (Arg.sl kb) (Args.one Arg.bool),Arg.bool,fun a=>slices_Contains_bool a.1 a.2,.pure,false⟩
theorem c99_ok:ConOK tab 99 c99:=Oc tab_99 rfl whileL [(130,c130)] ⟨c130_ok,trivial⟩ fun a=>by kernel_rfl
def slot_Check_l1 (s:((List Int)×Int×Int×(List Int)×(List Bool)×(List Int))):Option (Step ((List Int)×Int×Int×(List Int)×(List Bool)×(List Int)) (Step ((List Int)×Int×Int×(List Int)×(List Bool)×(List Int)×Int×(List Bool)) Int)):=
 bif decide (s.2.2.1<s.2.1) then
  (geti s.1 s.2.2.1).bind fun n0=>
  bif decide (n0<0) then
   some (.done (.done 8))
  else
   bif decide (1000000<n0) then
    some (.done (.done 8))
   else
    bif n0==0 then
     (geti s.2.2.2.2.1 s.2.2.1).bind fun b1=>
     bif b1 then
      some (.done (.done 8))
     else
      some (.next (s.1,s.2.1,wrapF .i64 (s.2.2.1+1),s.2.2.2))
    else
     some (.next (s.1,s.2.1,wrapF .i64 (s.2.2.1+1),s.2.2.2))
 else
  some (.done (.done 0))
def slot_Check_l2 (c0:(List Bool)) (s:((List Int)×Int×Int×(List Int)×(List Bool)×(List Int)×Int×(List Bool))):Option (Step ((List Int)×Int×Int×(List Int)×(List Bool)×(List Int)×Int×(List Bool)) Int):=
 bif decide (s.2.2.1<s.2.1) then
  (geti s.1 s.2.2.1).bind fun n0=>
  bif decide (n0<0) then
   bif s.2.2.2.2.2.2.2.length==s.2.2.2.2.2.2.2.length then
    bif s.2.2.2.2.2.2.2.length==c0.length then
     bif s.2.2.2.2.2.2.2.length==c0.length then
      bif decide (0<=s.2.2.1) then
       some (.done 8)
      else
       (slices_Contains_bool s.2.2.2.2.2.2.2 false).bind fun b1=>
       bif b1 then
        some (.done 8)
       else
        whileO slot_Check_l1 (s.2.2.2.1,Int.ofNat s.2.2.2.1.length,0,s.2.2.2.1,s.2.2.2.2.1,s.2.2.2.2.2.1)
     else
      none
    else
     none
   else
    none
  else
   bif decide (s.2.2.2.2.2.2.1<=n0) then
    bif s.2.2.2.2.2.2.2.length==s.2.2.2.2.2.2.2.length then
     bif s.2.2.2.2.2.2.2.length==c0.length then
      bif s.2.2.2.2.2.2.2.length==c0.length then
       bif decide (0<=s.2.2.1) then
        some (.done 8)
       else
        (slices_Contains_bool s.2.2.2.2.2.2.2 false).bind fun b2=>
        bif b2 then
         some (.done 8)
        else
         whileO slot_Check_l1 (s.2.2.2.1,Int.ofNat s.2.2.2.1.length,0,s.2.2.2.1,s.2.2.2.2.1,s.2.2.2.2.2.1)
      else
       none
     else
      none
    else
     none
   else
    (geti s.2.2.2.2.2.2.2 n0).bind fun b3=>
    bif b3 then
     bif s.2.2.2.2.2.2.2.length==s.2.2.2.2.2.2.2.length then
      bif s.2.2.2.2.2.2.2.length==c0.length then
       bif s.2.2.2.2.2.2.2.length==c0.length then
        bif decide (0<=s.2.2.1) then
         some (.done 8)
        else
         (slices_Contains_bool s.2.2.2.2.2.2.2 false).bind fun b4=>
         bif b4 then
          some (.done 8)
         else
          whileO slot_Check_l1 (s.2.2.2.1,Int.ofNat s.2.2.2.1.length,0,s.2.2.2.1,s.2.2.2.2.1,s.2.2.2.2.2.1)
       else
        none
      else
       none
     else
      none
    else
     (geti s.2.2.2.2.2.2.2 n0).bind fun _=>
     bif ((seti s.2.2.2.2.2.2.2 n0 true).length)==s.2.2.2.2.2.2.2.length then
      some (.next (s.1,s.2.1,wrapF .i64 (s.2.2.1+1),s.2.2.2.1,s.2.2.2.2.1,s.2.2.2.2.2.1,s.2.2.2.2.2.2.1,seti s.2.2.2.2.2.2.2 n0 true))
     else
      none
 else
  bif s.2.2.2.2.2.2.2.length==c0.length then
   bif s.2.2.2.2.2.2.2.length==c0.length then
    (slices_Contains_bool s.2.2.2.2.2.2.2 false).bind fun b6=>
    bif b6 then
     some (.done 8)
    else
     whileO slot_Check_l1 (s.2.2.2.1,Int.ofNat s.2.2.2.1.length,0,s.2.2.2.1,s.2.2.2.2.1,s.2.2.2.2.2.1)
   else
    none
  else
   none
def slot_Check (p0:Slots):Option Int:=
 bif decide ((Int.ofNat p0.uses.length)<1) then
  some 8
 else
  bif decide (200<(Int.ofNat p0.uses.length)) then
   some 8
  else
   bif (Int.ofNat p0.used.length) !=(Int.ofNat p0.uses.length) then
    some 8
   else
    (cloneO p0.used).bind fun l0=>
    whileO (slot_Check_l2 l0) (p0.free,Int.ofNat p0.free.length,0,p0.uses,p0.used,p0.free,Int.ofNat p0.uses.length,l0)
def c67:Con:=⟨Args.one (Arg.agg Slots_c),Arg.int .i64,fun a=>slot_Check a,.pure,false⟩
theorem c67_ok:ConOK tab 67 c67:=ConOK.of tab_67 (cx:=(mkCx whileL [(47,Con.clone kb),(99,c99)] [] [(97,x97),(129,x129),(98,x98)] [])) rfl (CxOK.make ⟨prim_47,c99_ok,trivial⟩ trivial ⟨tab_97,tab_129,tab_98,trivial⟩) (fun a=>by kernel_rfl)
def ratio_both (p0:Int×Int) (p1:Int×Int):Option Int:=
 (ratio_Check p0).bind fun n0=>
 (ratio_Check p1).bind fun n1=>
 some (if n1>n0 then n1 else n0)
def c131:Con:=⟨Args.cons (Arg.agg (Cod.row kii)) (Args.one (Arg.agg (Cod.row kii))),Arg.int .i64,fun a=>ratio_both a.1 a.2,.pure,false⟩
theorem c131_ok:ConOK tab 131 c131:=Oc tab_131 rfl whileL [(29,c29)] ⟨c29_ok,trivial⟩ fun a=>by kernel_rfl
def cmp_isNaN_int64 (p0:Int):Option Bool:=
 some (p0 !=p0)
def c151:Con:=⟨Args.one (Arg.int .i64),Arg.bool,fun a=>cmp_isNaN_int64 a,.pure,false⟩
theorem c151_ok:ConOK tab 151 c151:=Oc tab_151 rfl whileL [] trivial fun a=>by kernel_rfl
def cmp_Compare_int64 (p0:Int) (p1:Int):Option Int:=
 (cmp_isNaN_int64 p0).bind fun b0=>
 (cmp_isNaN_int64 p1).bind fun b1=>
 bif b0 then
  bif b1 then
   some 0
  else
   some (-1)
 else
  bif b1 then
   some 1
  else
   bif decide (p0<p1) then
    some (-1)
   else
    bif decide (p1<p0) then
     some 1
    else
     some 0
def c132:Con:=⟨Args.cons (Arg.int .i64) (Args.one (Arg.int .i64)),Arg.int .i64,fun a=>cmp_Compare_int64 a.1 a.2,.pure,false⟩
theorem c132_ok:ConOK tab 132 c132:=Oc tab_132 rfl whileL [(151,c151)] ⟨c151_ok,trivial⟩ fun a=>by kernel_rfl
def math_bits_Mul64 (p0:Int) (p1:Int):Option (Int×Int):=
 some (wrapF .u64 ((wrapF .u64 ((wrapF .u64 ((bShr .u64 p0 32)*(bShr .u64 p1 32)))+(bShr .u64 (wrapF .u64 ((wrapF .u64 ((bShr .u64 p0 32)*(bAnd .u64 p1 4294967295)))+(bShr .u64 (wrapF .u64 ((bAnd .u64 p0 4294967295)*(bAnd .u64 p1 4294967295))) 32))) 32)))+(bShr .u64 (wrapF .u64 ((bAnd .u64 (wrapF .u64 ((wrapF .u64 ((bShr .u64 p0 32)*(bAnd .u64 p1 4294967295)))+(bShr .u64 (wrapF .u64 ((bAnd .u64 p0 4294967295)*(bAnd .u64 p1 4294967295))) 32))) 4294967295)+(wrapF .u64 ((bAnd .u64 p0 4294967295)*(bShr .u64 p1 32))))) 32)),wrapF .u64 (p0*p1))
def c153:Con:=⟨Args.cons (Arg.int .u64) (Args.one (Arg.int .u64)),Arg.tup (Args.cons (Arg.int .u64) (Args.one (Arg.int .u64))),fun a=>math_bits_Mul64 a.1 a.2,.pure,false⟩
theorem c153_ok:ConOK tab 153 c153:=Oc tab_153 rfl whileL [] trivial fun a=>by kernel_rfl
def ratio_times (p0:Int) (p1:Int):Option (Bool×Int×Int):=
 (ratio_abs p0).bind fun n0=>
 (ratio_abs p1).bind fun n1=>
 (math_bits_Mul64 n0 n1).bind fun a2=>
 some (!((decide (p0<0))==(decide (p1<0))),a2)
def c134:Con:=⟨Args.cons (Arg.int .i64) (Args.one (Arg.int .i64)),Arg.agg (Cod.row kbuu),fun a=>ratio_times a.1 a.2,.pure,false⟩
theorem c134_ok:ConOK tab 134 c134:=Oc tab_134 rfl whileL [(65,c65),(153,c153)] ⟨c65_ok,c153_ok,trivial⟩ fun a=>by kernel_rfl
def cmp_isNaN_uint64 (p0:Int):Option Bool:=
 some (p0 !=p0)
def c163:Con:=⟨Args.one (Arg.int .u64),Arg.bool,fun a=>cmp_isNaN_uint64 a,.pure,false⟩
theorem c163_ok:ConOK tab 163 c163:=Oc tab_163 rfl whileL [] trivial fun a=>by kernel_rfl
def cmp_Compare_uint64 (p0:Int) (p1:Int):Option Int:=
 (cmp_isNaN_uint64 p0).bind fun b0=>
 (cmp_isNaN_uint64 p1).bind fun b1=>
 bif b0 then
  bif b1 then
   some 0
  else
   some (-1)
 else
  bif b1 then
   some 1
  else
   bif decide (p0<p1) then
    some (-1)
   else
    bif decide (p1<p0) then
     some 1
    else
     some 0
def c152:Con:=⟨Args.cons (Arg.int .u64) (Args.one (Arg.int .u64)),Arg.int .i64,fun a=>cmp_Compare_uint64 a.1 a.2,.pure,false⟩
theorem c152_ok:ConOK tab 152 c152:=Oc tab_152 rfl whileL [(163,c163)] ⟨c163_ok,trivial⟩ fun a=>by kernel_rfl
def ratio_compare (p0:Bool×Int×Int) (p1:Bool×Int×Int):Option Int:=
 (cmp_Compare_uint64 p0.2.1 p1.2.1).bind fun n0=>
 bif n0 !=0 then
  some n0
 else
  (cmp_Compare_uint64 p0.2.2 p1.2.2).bind fun n1=>
  some n1
def c133:Con:=⟨Args.cons (Arg.agg (Cod.row kbuu)) (Args.one (Arg.agg (Cod.row kbuu))),Arg.int .i64,fun a=>ratio_compare a.1 a.2,.pure,false⟩
theorem c133_ok:ConOK tab 133 c133:=Oc tab_133 rfl whileL [(152,c152)] ⟨c152_ok,trivial⟩ fun a=>by kernel_rfl
def ratio_Cmp (p0:Int×Int) (p1:Int×Int):Option (Int×Int):=
 (ratio_both p0 p1).bind fun n0=>
 bif n0 !=0 then
  some (0,n0)
 else
  bif !((decide (p0.1<0))==(decide (p1.1<0))) then
   (cmp_Compare_int64 p0.1 p1.1).bind fun n1=>
   some (n1,0)
  else
   (ratio_times p0.1 p1.2).bind fun a2=>
   (ratio_times p1.1 p0.2).bind fun a3=>
   (ratio_compare a2 a3).bind fun n4=>
   bif decide (p0.1<0) then
    some (wrapF .i64 (0-n4),0)
   else
    some (n4,0)
def c100:Con:=⟨Args.cons (Arg.agg (Cod.row kii)) (Args.one (Arg.agg (Cod.row kii))),Arg.tup (Args.cons (Arg.int .i64) (Args.one (Arg.int .i64))),fun a=>ratio_Cmp a.1 a.2,.pure,false⟩
theorem c100_ok:ConOK tab 100 c100:=Oc tab_100 rfl whileL [(131,c131),(132,c132),(134,c134),(133,c133)] ⟨c131_ok,c132_ok,c134_ok,c133_ok,trivial⟩ fun a=>by kernel_rfl
def cmp_isNaN_int (p0:Int):Option Bool:=
 some (p0 !=p0)
def c135:Con:=⟨Args.one (Arg.int .i64),Arg.bool,fun a=>cmp_isNaN_int a,.pure,false⟩
theorem c135_ok:ConOK tab 135 c135:=Oc tab_135 rfl whileL [] trivial fun a=>by kernel_rfl
def cmp_Compare_int (p0:Int) (p1:Int):Option Int:=
 (cmp_isNaN_int p0).bind fun b0=>
 (cmp_isNaN_int p1).bind fun b1=>
 bif b0 then
  bif b1 then
   some 0
  else
   some (-1)
 else
  bif b1 then
   some 1
  else
   bif decide (p0<p1) then
    some (-1)
   else
    bif decide (p1<p0) then
     some 1
    else
     some 0
def c102:Con:=⟨Args.cons (Arg.int .i64) (Args.one (Arg.int .i64)),Arg.int .i64,fun a=>cmp_Compare_int a.1 a.2,.pure,false⟩
theorem c102_ok:ConOK tab 102 c102:=Oc tab_102 rfl whileL [(135,c135)] ⟨c135_ok,trivial⟩ fun a=>by kernel_rfl
def cmp_Or_int_l1 (s:(Int×(List Int)×Int×Int)):Option (Step (Int×(List Int)×Int×Int) Int):=
 bif decide (s.2.2.2<s.2.2.1) then
  (geti s.2.1 s.2.2.2).bind fun n0=>
  bif n0 !=s.1 then
   some (.done n0)
  else
   some (.next (s.1,s.2.1,s.2.2.1,wrapF .i64 (s.2.2.2+1)))
 else
  some (.done s.1)
def cmp_Or_int (p0:List Int):Option Int:=
 whileO cmp_Or_int_l1 (0,p0,Int.ofNat p0.length,0)
def c101:Con:=⟨Args.one (Arg.sl ki),Arg.int .i64,fun a=>cmp_Or_int a,.pure,false⟩
theorem c101_ok:ConOK tab 101 c101:=Oc tab_101 rfl whileL [] trivial fun a=>by kernel_rfl
def agenda_compare (p0:Int×Int×Int×Int×Int) (p1:Int×Int×Int×Int×Int):Option Int:=
 (ratio_Cmp (p0.1,p0.2.1) (p1.1,p1.2.1)).bind fun a0=>
 (cmp_Compare_int p0.2.2.1 p1.2.2.1).bind fun n1=>
 (cmp_Or_int [a0.1,n1]).bind fun n2=>
 some n2
def c68:Con:=⟨Args.cons (Arg.agg (Cod.row kiiiii)) (Args.one (Arg.agg (Cod.row kiiiii))),Arg.int .i64,fun a=>agenda_compare a.1 a.2,.pure,false⟩
theorem c68_ok:ConOK tab 68 c68:=Oc tab_68 rfl whileL [(100,c100),(102,c102),(101,c101)] ⟨c100_ok,c102_ok,c101_ok,trivial⟩ fun a=>by kernel_rfl
def agenda_Check_l1 (s:((List (Int×Int×Int×Int×Int))×Int×Int×(List Int)×(List Bool)×(List Int)×(List (Int×Int×Int×Int×Int))×(List Int)×(List (List Int)))):Option (Step ((List (Int×Int×Int×Int×Int))×Int×Int×(List Int)×(List Bool)×(List Int)×(List (Int×Int×Int×Int×Int))×(List Int)×(List (List Int))) (Step ((List Int)×Int×Int×(List Int)×(List Bool)×(List Int)×(List (Int×Int×Int×Int×Int))×(List Int)) Int)):=
 bif decide (s.2.2.1<s.2.1) then
  (geti s.1 s.2.2.1).bind fun a0=>
  (ratio_Check (a0.1,a0.2.1)).bind fun n1=>
  bif n1 !=0 then
   some (.done (.done 8))
  else
   bif decide (a0.2.2.1<0) then
    some (.done (.done 8))
   else
    bif decide (1000000<a0.2.2.1) then
     some (.done (.done 8))
    else
     (hasO s.2.2.2.2.2.2.2.2 [a0.2.2.1]).bind fun b2=>
     bif b2 then
      some (.done (.done 8))
     else
      (insO s.2.2.2.2.2.2.2.2 [a0.2.2.1]).bind fun l3=>
      bif decide (0<s.2.2.1) then
       (geti s.2.2.2.2.2.2.1 (wrapF .i64 (Int.tdiv (wrapF .i64 (s.2.2.1-1)) 2))).bind fun a4=>
       (agenda_compare a0 a4).bind fun n5=>
       bif decide (n5<0) then
        some (.done (.done 8))
       else
        some (.next (s.1,s.2.1,wrapF .i64 (s.2.2.1+1),s.2.2.2.1,s.2.2.2.2.1,s.2.2.2.2.2.1,s.2.2.2.2.2.2.1,s.2.2.2.2.2.2.2.1,l3))
      else
       some (.next (s.1,s.2.1,wrapF .i64 (s.2.2.1+1),s.2.2.2.1,s.2.2.2.2.1,s.2.2.2.2.2.1,s.2.2.2.2.2.2.1,s.2.2.2.2.2.2.2.1,l3))
 else
  some (.done (.done 0))
def agenda_Check_l2 (s:((List Int)×Int×Int×(List Int)×(List Bool)×(List Int)×(List (Int×Int×Int×Int×Int))×(List Int))):Option (Step ((List Int)×Int×Int×(List Int)×(List Bool)×(List Int)×(List (Int×Int×Int×Int×Int))×(List Int)) Int):=
 bif decide (s.2.2.1<s.2.1) then
  (geti s.1 s.2.2.1).bind fun n0=>
  (geti s.2.2.2.2.1 s.2.2.1).bind fun b1=>
  bif !b1 then
   bif n0 !=(-1) then
    some (.done 8)
   else
    some (.next (s.1,s.2.1,wrapF .i64 (s.2.2.1+1),s.2.2.2))
  else
   bif decide (n0<0) then
    some (.done 8)
   else
    bif decide ((Int.ofNat s.2.2.2.2.2.2.1.length)<=n0) then
     some (.done 8)
    else
     (geti s.2.2.2.2.2.2.1 n0).bind fun a2=>
     (geti s.2.2.2.1 s.2.2.1).bind fun n3=>
     bif !((a2.2.2.2.1==s.2.2.1)&&(a2.2.2.2.2==n3)) then
      some (.done 8)
     else
      some (.next (s.1,s.2.1,wrapF .i64 (s.2.2.1+1),s.2.2.2))
 else
  whileO agenda_Check_l1 (s.2.2.2.2.2.2.1,Int.ofNat s.2.2.2.2.2.2.1.length,0,s.2.2.2.1,s.2.2.2.2.1,s.2.2.2.2.2.1,s.2.2.2.2.2.2.1,s.2.2.2.2.2.2.2,[])
def agenda_Check (p0:Agenda):Option Int:=
 (slot_Check p0.slots).bind fun n0=>
 bif n0 !=0 then
  some 8
 else
  bif (Int.ofNat p0.where_.length) !=(Int.ofNat p0.slots.used.length) then
   some 8
  else
   bif (Int.ofNat p0.heap.length) !=(wrapF .i64 ((Int.ofNat p0.slots.used.length) - (Int.ofNat p0.slots.free.length))) then
    some 8
   else
    whileO agenda_Check_l2 (p0.where_,Int.ofNat p0.where_.length,0,p0.slots.uses,p0.slots.used,p0.slots.free,p0.heap,p0.where_)
def c31:Con:=⟨Args.one (Arg.agg Agenda_c),Arg.int .i64,fun a=>agenda_Check a,.pure,false⟩
theorem c31_ok:ConOK tab 31 c31:=Oc tab_31 rfl whileL [(67,c67),(29,c29),(68,c68)] ⟨c67_ok,c29_ok,c68_ok,trivial⟩ fun a=>by kernel_rfl
def clock_point_1 (p0:Int×Int×Int) (p1:Int):Option Int:=
 (cmp_Compare_int p0.1 p1).bind fun n0=>
 some n0
def c107:Con:=⟨Args.cons (Arg.agg (Cod.row kiii)) (Args.one (Arg.int .i64)),Arg.int .i64,fun a=>clock_point_1 a.1 a.2,.pure,false⟩
theorem c107_ok:ConOK tab 107 c107:=Oc tab_107 rfl whileL [(102,c102)] ⟨c102_ok,trivial⟩ fun a=>by kernel_rfl
def slices_BinarySearchFunc_Point_int__clock_point_1_l1 (s:((List (Int×Int×Int))×Int×Int×Int×Int)):Option (Step ((List (Int×Int×Int))×Int×Int×Int×Int) (Int×Bool)):=
 bif decide (s.2.2.2.1<s.2.2.2.2) then
  (geti s.1 (wrapF .i64 (bShr .u64 (wrapF .u64 (wrapF .i64 (s.2.2.2.1+s.2.2.2.2))) 1))).bind fun a0=>
  (clock_point_1 a0 s.2.1).bind fun n1=>
  bif decide (n1<0) then
   some (.next (s.1,s.2.1,s.2.2.1,wrapF .i64 ((wrapF .i64 (bShr .u64 (wrapF .u64 (wrapF .i64 (s.2.2.2.1+s.2.2.2.2))) 1))+1),s.2.2.2.2))
  else
   some (.next (s.1,s.2.1,s.2.2.1,s.2.2.2.1,wrapF .i64 (bShr .u64 (wrapF .u64 (wrapF .i64 (s.2.2.2.1+s.2.2.2.2))) 1)))
 else
  bif decide (s.2.2.2.1<s.2.2.1) then
   (geti s.1 s.2.2.2.1).bind fun a2=>
   (clock_point_1 a2 s.2.1).bind fun n3=>
   some (.done (s.2.2.2.1,n3==0))
  else
   some (.done (s.2.2.2.1,false))
def slices_BinarySearchFunc_Point_int__clock_point_1 (p0:List (Int×Int×Int)) (p1:Int) (_:Unit):Option (Int×Bool):=
 whileO slices_BinarySearchFunc_Point_int__clock_point_1_l1 (p0,p1,Int.ofNat p0.length,0,Int.ofNat p0.length)
def c106_107:Con:=⟨Args.cons (Arg.sl kiii) (Args.cons (Arg.int .i64) (Args.one (Arg.clo 107 Args.nil))),Arg.tup (Args.cons (Arg.int .i64) (Args.one Arg.bool)),fun a=>slices_BinarySearchFunc_Point_int__clock_point_1 a.1 a.2.1 a.2.2,.pure,false⟩
theorem c106_107_ok:ConOK tab 106 c106_107:=Oc tab_106 rfl whileL [(107,c107)] ⟨c107_ok,trivial⟩ fun a=>by kernel_rfl
def clock_point (p0:Field) (p1:Int):Option (Int×Int×Int):=
 (slices_BinarySearchFunc_Point_int__clock_point_1 p0.points p1 ()).bind fun a0=>
 bif !a0.2 then
  some (-1,0,0)
 else
  (geti p0.points a0.1).bind fun a1=>
  some a1
def c70:Con:=⟨Args.cons (Arg.agg Field_c) (Args.one (Arg.int .i64)),Arg.agg (Cod.row kiii),fun a=>clock_point a.1 a.2,.pure,false⟩
theorem c70_ok:ConOK tab 70 c70:=Oc tab_70 rfl whileL [(106,c106_107)] ⟨c106_107_ok,trivial⟩ fun a=>by kernel_rfl
def course_two (p0:Int×Int×Int) (p1:Int×Int×Int) (p2:Int×Int):Option Int:=
 (course_Check p0).bind fun n0=>
 (course_Check p1).bind fun n1=>
 (ratio_Check p2).bind fun n2=>
 bif (if n2>(if n1>n0 then n1 else n0) then n2 else if n1>n0 then n1 else n0) !=0 then
  some (if n2>(if n1>n0 then n1 else n0) then n2 else if n1>n0 then n1 else n0)
 else
  bif p0.1==p1.1 then
   some 2
  else
   some 0
def c103:Con:=⟨Args.cons (Arg.agg (Cod.row kiii)) (Args.cons (Arg.agg (Cod.row kiii)) (Args.one (Arg.agg (Cod.row kii)))),Arg.int .i64,fun a=>course_two a.1 a.2.1 a.2.2,.pure,false⟩
theorem c103_ok:ConOK tab 103 c103:=Oc tab_103 rfl whileL [(33,c33),(29,c29)] ⟨c33_ok,c29_ok,trivial⟩ fun a=>by kernel_rfl
theorem prim_154:ConOK tab 154 (Con.add64):=ConOK.add64 tab_154
def course_sum_l1 (s:(Int×Int×Int×Int×Int×Int×Int×Int×Int)):Option (Step (Int×Int×Int×Int×Int×Int×Int×Int×Int) (Int×Int)):=
 bif decide (s.2.2.2.2.1<2) then
  bif s.2.2.2.2.1==0 then
   (math_bits_Mul64 (wrapF .u64 s.1) (wrapF .u64 s.2.1)).bind fun a0=>
   bif decide (s.1<0) then
    bif decide (s.2.1<0) then
     (add64O s.2.2.2.2.2.2.2.2 a0.2 0).bind fun a1=>
     some (.next (s.1,s.2.1,s.2.2.1,s.2.2.2.1,wrapF .i64 (s.2.2.2.2.1+1),s.2.2.2.2.2.1,s.2.2.2.2.2.2.1,wrapF .i64 ((wrapF .i64 (s.2.2.2.2.2.2.2.1+(wrapF .i64 ((wrapF .i64 ((wrapF .i64 a0.1) -s.2.1)) -s.1))))+(wrapF .i64 a1.2)),a1.1))
    else
     (add64O s.2.2.2.2.2.2.2.2 a0.2 0).bind fun a2=>
     some (.next (s.1,s.2.1,s.2.2.1,s.2.2.2.1,wrapF .i64 (s.2.2.2.2.1+1),s.2.2.2.2.2.1,s.2.2.2.2.2.2.1,wrapF .i64 ((wrapF .i64 (s.2.2.2.2.2.2.2.1+(wrapF .i64 ((wrapF .i64 a0.1) -s.2.1))))+(wrapF .i64 a2.2)),a2.1))
   else
    bif decide (s.2.1<0) then
     (add64O s.2.2.2.2.2.2.2.2 a0.2 0).bind fun a3=>
     some (.next (s.1,s.2.1,s.2.2.1,s.2.2.2.1,wrapF .i64 (s.2.2.2.2.1+1),s.2.2.2.2.2.1,s.2.2.2.2.2.2.1,wrapF .i64 ((wrapF .i64 (s.2.2.2.2.2.2.2.1+(wrapF .i64 ((wrapF .i64 a0.1) -s.1))))+(wrapF .i64 a3.2)),a3.1))
    else
     (add64O s.2.2.2.2.2.2.2.2 a0.2 0).bind fun a4=>
     some (.next (s.1,s.2.1,s.2.2.1,s.2.2.2.1,wrapF .i64 (s.2.2.2.2.1+1),s.2.2.2.2.2.1,s.2.2.2.2.2.2.1,wrapF .i64 ((wrapF .i64 (s.2.2.2.2.2.2.2.1+(wrapF .i64 a0.1)))+(wrapF .i64 a4.2)),a4.1))
  else
   bif s.2.2.2.2.1==1 then
    (math_bits_Mul64 (wrapF .u64 s.2.2.1) (wrapF .u64 s.2.2.2.1)).bind fun a5=>
    bif decide (s.2.2.1<0) then
     bif decide (s.2.2.2.1<0) then
      (add64O s.2.2.2.2.2.2.2.2 a5.2 0).bind fun a6=>
      some (.next (s.1,s.2.1,s.2.2.1,s.2.2.2.1,wrapF .i64 (s.2.2.2.2.1+1),s.2.2.2.2.2.1,s.2.2.2.2.2.2.1,wrapF .i64 ((wrapF .i64 (s.2.2.2.2.2.2.2.1+(wrapF .i64 ((wrapF .i64 ((wrapF .i64 a5.1) -s.2.2.2.1)) -s.2.2.1))))+(wrapF .i64 a6.2)),a6.1))
     else
      (add64O s.2.2.2.2.2.2.2.2 a5.2 0).bind fun a7=>
      some (.next (s.1,s.2.1,s.2.2.1,s.2.2.2.1,wrapF .i64 (s.2.2.2.2.1+1),s.2.2.2.2.2.1,s.2.2.2.2.2.2.1,wrapF .i64 ((wrapF .i64 (s.2.2.2.2.2.2.2.1+(wrapF .i64 ((wrapF .i64 a5.1) -s.2.2.2.1))))+(wrapF .i64 a7.2)),a7.1))
    else
     bif decide (s.2.2.2.1<0) then
      (add64O s.2.2.2.2.2.2.2.2 a5.2 0).bind fun a8=>
      some (.next (s.1,s.2.1,s.2.2.1,s.2.2.2.1,wrapF .i64 (s.2.2.2.2.1+1),s.2.2.2.2.2.1,s.2.2.2.2.2.2.1,wrapF .i64 ((wrapF .i64 (s.2.2.2.2.2.2.2.1+(wrapF .i64 ((wrapF .i64 a5.1) -s.2.2.1))))+(wrapF .i64 a8.2)),a8.1))
     else
      (add64O s.2.2.2.2.2.2.2.2 a5.2 0).bind fun a9=>
      some (.next (s.1,s.2.1,s.2.2.1,s.2.2.2.1,wrapF .i64 (s.2.2.2.2.1+1),s.2.2.2.2.2.1,s.2.2.2.2.2.2.1,wrapF .i64 ((wrapF .i64 (s.2.2.2.2.2.2.2.1+(wrapF .i64 a5.1)))+(wrapF .i64 a9.2)),a9.1))
   else
    none
 else
  some (.done s.2.2.2.2.2.2.2)
def course_sum (p0:Int×Int×Int×Int):Option (Int×Int):=
 whileO course_sum_l1 (p0.1,p0.2.1,p0.2.2.1,p0.2.2.2,0,0,0,0,0)
def c136:Con:=⟨Args.one (Arg.agg (Cod.row kiiii)),Arg.agg (Cod.row kiu),fun a=>course_sum a,.pure,false⟩
theorem c136_ok:ConOK tab 136 c136:=Oc tab_136 rfl whileL [(153,c153),(154,Con.add64)] ⟨c153_ok,prim_154,trivial⟩ fun a=>by kernel_rfl
def course_compare (p0:Int×Int×Int) (p1:Int×Int×Int) (p2:Int×Int):Option Int:=
 (course_sum (wrapF .i64 (p0.2.1-p1.2.1),p2.2,wrapF .i64 (p0.2.2-p1.2.2),p2.1)).bind fun a0=>
 bif !((a0.1==0)&&(a0.2==0)) then
  bif decide (a0.1<0) then
   some (-1)
  else
   some 1
 else
  (cmp_Compare_int64 p0.2.2 p1.2.2).bind fun n1=>
  (cmp_Compare_int p1.1 p0.1).bind fun n2=>
  (cmp_Or_int [n1,n2]).bind fun n3=>
  some n3
def c104:Con:=⟨Args.cons (Arg.agg (Cod.row kiii)) (Args.cons (Arg.agg (Cod.row kiii)) (Args.one (Arg.agg (Cod.row kii)))),Arg.int .i64,fun a=>course_compare a.1 a.2.1 a.2.2,.pure,false⟩
theorem c104_ok:ConOK tab 104 c104:=Oc tab_104 rfl whileL [(136,c136),(132,c132),(102,c102),(101,c101)] ⟨c136_ok,c132_ok,c102_ok,c101_ok,trivial⟩ fun a=>by kernel_rfl
def ratio_build (p0:Bool×Int×Int) (p1:Int) (p2:Int):Option ((Int×Int)×Int):=
 bif decide (0<p0.2.1) then
  some ((0,0),16)
 else
  bif decide (9223372036854775807<p0.2.2) then
   some ((0,0),16)
  else
   bif decide (0<p1) then
    some ((0,0),16)
   else
    bif decide (9223372036854775807<p2) then
     some ((0,0),16)
    else
     bif p0.1 then
      some ((wrapF .i64 (0- (wrapF .i64 p0.2.2)),wrapF .i64 p2),0)
     else
      some ((wrapF .i64 p0.2.2,wrapF .i64 p2),0)
def c155:Con:=⟨Args.cons (Arg.agg (Cod.row kbuu)) (Args.cons (Arg.int .u64) (Args.one (Arg.int .u64))),Arg.tup (Args.cons (Arg.agg (Cod.row kii)) (Args.one (Arg.int .i64))),fun a=>ratio_build a.1 a.2.1 a.2.2,.pure,false⟩
theorem c155_ok:ConOK tab 155 c155:=Oc tab_155 rfl whileL [] trivial fun a=>by kernel_rfl
def ratio_Make (p0:Int) (p1:Int):Option ((Int×Int)×Int):=
 bif p1==0 then
  some ((0,0),26)
 else
  (ratio_abs p0).bind fun n0=>
  (ratio_abs p1).bind fun n1=>
  (ratio_gcd n0 n1).bind fun n2=>
  (ratio_abs p0).bind fun n3=>
  bif n2==0 then
   none
  else
   (ratio_abs p1).bind fun n4=>
   bif n2==0 then
    none
   else
    (ratio_build (!((decide (p0<0))==(decide (p1<0))),0,wrapF .u64 (Int.tdiv n3 n2)) 0 (wrapF .u64 (Int.tdiv n4 n2))).bind fun a5=>
    some a5
def c137:Con:=⟨Args.cons (Arg.int .i64) (Args.one (Arg.int .i64)),Arg.tup (Args.cons (Arg.agg (Cod.row kii)) (Args.one (Arg.int .i64))),fun a=>ratio_Make a.1 a.2,.pure,false⟩
theorem c137_ok:ConOK tab 137 c137:=Oc tab_137 rfl whileL [(65,c65),(64,c64),(155,c155)] ⟨c65_ok,c64_ok,c155_ok,trivial⟩ fun a=>by kernel_rfl
def course_Meet (p0:Int×Int×Int) (p1:Int×Int×Int):Option ((Int×Int)×Int):=
 (course_two p0 p1 (0,1)).bind fun n0=>
 bif n0 !=0 then
  some ((0,0),n0)
 else
  bif p0.2.2==p1.2.2 then
   some ((0,0),6)
  else
   (ratio_Make (wrapF .i64 (p0.2.1-p1.2.1)) (wrapF .i64 (p1.2.2-p0.2.2))).bind fun a1=>
   some a1
def c105:Con:=⟨Args.cons (Arg.agg (Cod.row kiii)) (Args.one (Arg.agg (Cod.row kiii))),Arg.tup (Args.cons (Arg.agg (Cod.row kii)) (Args.one (Arg.int .i64))),fun a=>course_Meet a.1 a.2,.pure,false⟩
theorem c105_ok:ConOK tab 105 c105:=Oc tab_105 rfl whileL [(103,c103),(137,c137)] ⟨c103_ok,c137_ok,trivial⟩ fun a=>by kernel_rfl
def course_Fails (p0:Int×Int×Int) (p1:Int×Int×Int) (p2:Int×Int):Option ((Int×Int)×Bool×Int):=
 (course_two p0 p1 p2).bind fun n0=>
 bif n0 !=0 then
  some ((0,0),false,n0)
 else
  (course_compare p1 p0 p2).bind fun n1=>
  bif decide (0<n1) then
   some (p2,true,0)
  else
   bif decide (p1.2.2<=p0.2.2) then
    some ((0,0),false,0)
   else
    (course_Meet p0 p1).bind fun a2=>
    some (a2.1,a2.2==0,a2.2)
def c69:Con:=⟨Args.cons (Arg.agg (Cod.row kiii)) (Args.cons (Arg.agg (Cod.row kiii)) (Args.one (Arg.agg (Cod.row kii)))),Arg.tup (Args.cons (Arg.agg (Cod.row kii)) (Args.cons Arg.bool (Args.one (Arg.int .i64)))),fun a=>course_Fails a.1 a.2.1 a.2.2,.pure,false⟩
theorem c69_ok:ConOK tab 69 c69:=Oc tab_69 rfl whileL [(103,c103),(104,c104),(105,c105)] ⟨c103_ok,c104_ok,c105_ok,trivial⟩ fun a=>by kernel_rfl
def clock_when (p0:Field) (p1:Int×Int) (p2:Int×Int):Option ((Int×Int)×Bool×Int):=
 (clock_point p0 p1.2).bind fun a0=>
 (clock_point p0 p1.1).bind fun a1=>
 (course_Fails a0 a1 p2).bind fun a2=>
 some a2
def c32:Con:=⟨Args.cons (Arg.agg Field_c) (Args.cons (Arg.agg (Cod.row kii)) (Args.one (Arg.agg (Cod.row kii)))),Arg.tup (Args.cons (Arg.agg (Cod.row kii)) (Args.cons Arg.bool (Args.one (Arg.int .i64)))),fun a=>clock_when a.1 a.2.1 a.2.2,.pure,false⟩
theorem c32_ok:ConOK tab 32 c32:=Oc tab_32 rfl whileL [(70,c70),(69,c69)] ⟨c70_ok,c69_ok,trivial⟩ fun a=>by kernel_rfl
def clock_Check_l1 (s:((List (Int×Int×Int))×(List (Int×Int×Int))×Int×Int×Int×Int×(List (Int×Int×Int))×Int×(List (Int×Int×Int))×(List Int)×(List Bool)×(List Int)×(List (Int×Int×Int×Int×Int))×(List Int)×(List (Int×Int×Int)))):Option (Step ((List (Int×Int×Int))×(List (Int×Int×Int))×Int×Int×Int×Int×(List (Int×Int×Int))×Int×(List (Int×Int×Int))×(List Int)×(List Bool)×(List Int)×(List (Int×Int×Int×Int×Int))×(List Int)×(List (Int×Int×Int))) (Step (Int×Int×Int×Int×(List (Int×Int×Int))×Int×(List (Int×Int×Int))×(List Int)×(List Bool)×(List Int)×(List (Int×Int×Int×Int×Int))×(List Int)×(List (Int×Int×Int))×(List Int)) Int)):=
 bif decide (s.2.2.2.1<s.2.2.1) then
  (geti s.2.1 s.2.2.2.1).bind fun a0=>
  (clock_when (Field.mk s.2.2.2.2.2.2.1) a0.2 (s.2.2.2.2.1,s.2.2.2.2.2.1)).bind fun a1=>
  bif a1.2.2 !=0 then
   some (.done (.done 8))
  else
   bif !a1.2.1 then
    some (.next (s.1,s.2.1,s.2.2.1,wrapF .i64 (s.2.2.2.1+1),s.2.2.2.2))
   else
    bif (Int.ofNat s.1.length)==0 then
     some (.done (.done 8))
    else
     (geti s.1 0).bind fun a2=>
     bif a2.1 !=a0.1 then
      some (.done (.done 8))
     else
      (geti s.1 0).bind fun a3=>
      bif decide (a3.2.1<0) then
       some (.done (.done 8))
      else
       bif decide (200<=a3.2.1) then
        some (.done (.done 8))
       else
        (geti s.2.2.2.2.2.2.2.2.2.2.2.2.2.1 a3.2.1).bind fun n4=>
        bif decide (n4<0) then
         some (.done (.done 8))
        else
         (geti s.2.2.2.2.2.2.2.2.2.2.2.2.2.1 a3.2.1).bind fun n5=>
         (geti s.2.2.2.2.2.2.2.2.2.2.2.2.1 n5).bind fun a6=>
         bif !((a6.1==a1.1.1)&&((a6.2.1==a1.1.2)&&((a6.2.2.1==a0.1)&&((a6.2.2.2.1==a3.2.1)&&(a6.2.2.2.2==a3.2.2))))) then
          some (.done (.done 8))
         else
          (sliceO s.1 1 (Int.ofNat s.1.length)).bind fun l7=>
          some (.next (l7,s.2.1,s.2.2.1,wrapF .i64 (s.2.2.2.1+1),s.2.2.2.2))
 else
  bif decide (0<(Int.ofNat s.1.length)) then
   some (.done (.done 8))
  else
   some (.done (.done 0))
def clock_Check_l2 (s:(Int×Int×Int×Int×(List (Int×Int×Int))×Int×(List (Int×Int×Int))×(List Int)×(List Bool)×(List Int)×(List (Int×Int×Int×Int×Int))×(List Int)×(List (Int×Int×Int))×(List Int))):Option (Step (Int×Int×Int×Int×(List (Int×Int×Int))×Int×(List (Int×Int×Int))×(List Int)×(List Bool)×(List Int)×(List (Int×Int×Int×Int×Int))×(List Int)×(List (Int×Int×Int))×(List Int)) Int):=
 bif decide (s.2.1<s.1) then
  (geti s.2.2.2.2.2.2.2.2.2.2.2.2.2 s.2.1).bind fun n0=>
  bif n0 !=0 then
   some (.done 8)
  else
   some (.next (s.1,wrapF .i64 (s.2.1+1),s.2.2))
 else
  bif (Int.ofNat s.2.2.2.2.2.2.2.2.2.2.2.1.length) !=200 then
   some (.done 8)
  else
   bif (Int.ofNat s.2.2.2.2.2.2.2.2.2.2.1.length) !=(Int.ofNat s.2.2.2.2.2.2.2.2.2.2.2.2.1.length) then
    some (.done 8)
   else
    whileO clock_Check_l1 (s.2.2.2.2.2.2.2.2.2.2.2.2.1,s.2.2.2.2.2.2.1,Int.ofNat s.2.2.2.2.2.2.1.length,0,s.2.2.1,s.2.2.2.1,s.2.2.2.2.1,s.2.2.2.2.2.1,s.2.2.2.2.2.2.1,s.2.2.2.2.2.2.2.1,s.2.2.2.2.2.2.2.2.1,s.2.2.2.2.2.2.2.2.2.1,s.2.2.2.2.2.2.2.2.2.2.1,s.2.2.2.2.2.2.2.2.2.2.2.1,s.2.2.2.2.2.2.2.2.2.2.2.2.1)
def clock_Check (p0:Clock):Option Int:=
 (ratio_Check p0.now).bind fun n0=>
 (field_Check p0.field).bind fun n1=>
 (cert_Check p0.certs).bind fun n2=>
 (agenda_Check p0.agenda).bind fun n3=>
 whileO clock_Check_l2 (Int.ofNat ([n0,n1,n2,n3].length),0,p0.now.1,p0.now.2,p0.field.points,p0.certs.next_,p0.certs.list,p0.agenda.slots.uses,p0.agenda.slots.used,p0.agenda.slots.free,p0.agenda.heap,p0.agenda.where_,p0.due,[n0,n1,n2,n3])
def c14:Con:=⟨Args.one (Arg.agg Clock_c),Arg.int .i64,fun a=>clock_Check a,.pure,false⟩
theorem c14_ok:ConOK tab 14 c14:=Oc tab_14 rfl whileL [(29,c29),(15,c15),(30,c30),(31,c31),(32,c32)] ⟨c29_ok,c15_ok,c30_ok,c31_ok,c32_ok,trivial⟩ fun a=>by kernel_rfl
def slices_Index_Cert_l1 (s:((List (Int×Int))×Int×Int×Int×Int)):Option (Step ((List (Int×Int))×Int×Int×Int×Int) Int):=
 bif decide (s.2.2.1<s.2.1) then
  (geti s.1 s.2.2.1).bind fun a0=>
  bif (s.2.2.2.1==a0.1)&&(s.2.2.2.2==a0.2) then
   some (.done s.2.2.1)
  else
   some (.next (s.1,s.2.1,wrapF .i64 (s.2.2.1+1),s.2.2.2))
 else
  some (.done (-1))
def slices_Index_Cert (p0:List (Int×Int)) (p1:Int×Int):Option Int:=
 whileO slices_Index_Cert_l1 (p0,Int.ofNat p0.length,0,p1)
def c34:Con:=⟨Args.cons (Arg.sl kii) (Args.one (Arg.agg (Cod.row kii))),Arg.int .i64,fun a=>slices_Index_Cert a.1 a.2,.pure,false⟩
theorem c34_ok:ConOK tab 34 c34:=Oc tab_34 rfl whileL [] trivial fun a=>by kernel_rfl
def slices_Contains_Cert (p0:List (Int×Int)) (p1:Int×Int):Option Bool:=
 (slices_Index_Cert p0 p1).bind fun n0=>
 some (decide (0<=n0))
def c16:Con:=⟨Args.cons (Arg.sl kii) (Args.one (Arg.agg (Cod.row kii))),Arg.bool,fun a=>slices_Contains_Cert a.1 a.2,.pure,false⟩
theorem c16_ok:ConOK tab 16 c16:=Oc tab_16 rfl whileL [(34,c34)] ⟨c34_ok,trivial⟩ fun a=>by kernel_rfl
def field_find_1 (p0:Int×Int×Int) (p1:Int):Option Int:=
 (cmp_Compare_int p0.1 p1).bind fun n0=>
 some n0
def c108:Con:=⟨Args.cons (Arg.agg (Cod.row kiii)) (Args.one (Arg.int .i64)),Arg.int .i64,fun a=>field_find_1 a.1 a.2,.pure,false⟩
theorem c108_ok:ConOK tab 108 c108:=Oc tab_108 rfl whileL [(102,c102)] ⟨c102_ok,trivial⟩ fun a=>by kernel_rfl
def slices_BinarySearchFunc_Point_int__field_find_1_l1 (s:((List (Int×Int×Int))×Int×Int×Int×Int)):Option (Step ((List (Int×Int×Int))×Int×Int×Int×Int) (Int×Bool)):=
 bif decide (s.2.2.2.1<s.2.2.2.2) then
  (geti s.1 (wrapF .i64 (bShr .u64 (wrapF .u64 (wrapF .i64 (s.2.2.2.1+s.2.2.2.2))) 1))).bind fun a0=>
  (field_find_1 a0 s.2.1).bind fun n1=>
  bif decide (n1<0) then
   some (.next (s.1,s.2.1,s.2.2.1,wrapF .i64 ((wrapF .i64 (bShr .u64 (wrapF .u64 (wrapF .i64 (s.2.2.2.1+s.2.2.2.2))) 1))+1),s.2.2.2.2))
  else
   some (.next (s.1,s.2.1,s.2.2.1,s.2.2.2.1,wrapF .i64 (bShr .u64 (wrapF .u64 (wrapF .i64 (s.2.2.2.1+s.2.2.2.2))) 1)))
 else
  bif decide (s.2.2.2.1<s.2.2.1) then
   (geti s.1 s.2.2.2.1).bind fun a2=>
   (field_find_1 a2 s.2.1).bind fun n3=>
   some (.done (s.2.2.2.1,n3==0))
  else
   some (.done (s.2.2.2.1,false))
def slices_BinarySearchFunc_Point_int__field_find_1 (p0:List (Int×Int×Int)) (p1:Int) (_:Unit):Option (Int×Bool):=
 whileO slices_BinarySearchFunc_Point_int__field_find_1_l1 (p0,p1,Int.ofNat p0.length,0,Int.ofNat p0.length)
def c106_108:Con:=⟨Args.cons (Arg.sl kiii) (Args.cons (Arg.int .i64) (Args.one (Arg.clo 108 Args.nil))),Arg.tup (Args.cons (Arg.int .i64) (Args.one Arg.bool)),fun a=>slices_BinarySearchFunc_Point_int__field_find_1 a.1 a.2.1 a.2.2,.pure,false⟩
theorem c106_108_ok:ConOK tab 106 c106_108:=Oc tab_106 rfl whileL [(108,c108)] ⟨c108_ok,trivial⟩ fun a=>by kernel_rfl
def field_find (p0:Field) (p1:Int):Option (Int×Bool):=
 (slices_BinarySearchFunc_Point_int__field_find_1 p0.points p1 ()).bind fun a0=>
 some a0
def c72:Con:=⟨Args.cons (Arg.agg Field_c) (Args.one (Arg.int .i64)),Arg.tup (Args.cons (Arg.int .i64) (Args.one Arg.bool)),fun a=>field_find a.1 a.2,.pure,false⟩
theorem c72_ok:ConOK tab 72 c72:=Oc tab_72 rfl whileL [(106,c106_108)] ⟨c106_108_ok,trivial⟩ fun a=>by kernel_rfl
def field_place (p0:Field) (p1:Int):Option (Int×Int):=
 (field_Check p0).bind fun n0=>
 bif n0 !=0 then
  some (0,n0)
 else
  (field_find p0 p1).bind fun a1=>
  bif !a1.2 then
   some (0,6)
  else
   some (a1.1,0)
def c35:Con:=⟨Args.cons (Arg.agg Field_c) (Args.one (Arg.int .i64)),Arg.tup (Args.cons (Arg.int .i64) (Args.one (Arg.int .i64))),fun a=>field_place a.1 a.2,.pure,false⟩
theorem c35_ok:ConOK tab 35 c35:=Oc tab_35 rfl whileL [(15,c15),(72,c72)] ⟨c15_ok,c72_ok,trivial⟩ fun a=>by kernel_rfl
def field_Find (p0:Field) (p1:Int):Option ((Int×Int×Int)×Int):=
 (field_place p0 p1).bind fun a0=>
 bif a0.2 !=0 then
  some ((0,0,0),a0.2)
 else
  (geti p0.points a0.1).bind fun a1=>
  some (a1,0)
def c17:Con:=⟨Args.cons (Arg.agg Field_c) (Args.one (Arg.int .i64)),Arg.tup (Args.cons (Arg.agg (Cod.row kiii)) (Args.one (Arg.int .i64))),fun a=>field_Find a.1 a.2,.pure,false⟩
theorem c17_ok:ConOK tab 17 c17:=Oc tab_17 rfl whileL [(35,c35)] ⟨c35_ok,trivial⟩ fun a=>by kernel_rfl
theorem prim_42:ConOK tab 42 (Con.clone kiii):=ConOK.clone tab_42 rfl
theorem prim_43:ConOK tab 43 (Con.clone kiii):=ConOK.clone tab_43 rfl
theorem prim_44:ConOK tab 44 (Con.clone kiii):=ConOK.clone tab_44 rfl
theorem prim_45:ConOK tab 45 (Con.clone kiiiii):=ConOK.clone tab_45 rfl
theorem prim_46:ConOK tab 46 (Con.clone ki):=ConOK.clone tab_46 rfl
def kheap_twin (p0:Clock):Option Clock:=
 (cloneO p0.field.points).bind fun l0=>
 (cloneO p0.certs.list).bind fun l1=>
 (cloneO p0.due).bind fun l2=>
 (cloneO p0.agenda.heap).bind fun l3=>
 (cloneO p0.agenda.where_).bind fun l4=>
 (cloneO p0.agenda.slots.uses).bind fun l5=>
 (cloneO p0.agenda.slots.used).bind fun l6=>
 (cloneO p0.agenda.slots.free).bind fun l7=>
 some (Clock.mk p0.now (Field.mk l0) (Certs.mk p0.certs.next_ l1) (Agenda.mk (Slots.mk l5 l6 l7) l3 l4) l2)
def c19:Con:=⟨Args.one (Arg.agg Clock_c),Arg.agg Clock_c,fun a=>kheap_twin a,.own,true⟩
def c19p:Con:=⟨Args.one (Arg.agg Clock_c),Arg.agg Clock_c,fun a=>kheap_twin a,.frz,false⟩
theorem c19_ok:ConOK tab 19 c19:=Oc tab_19 rfl whileL [(42,Con.clone kiii),(43,Con.clone kiii),(44,Con.clone kiii),(45,Con.clone kiiiii),(46,Con.clone ki),(47,Con.clone kb)] ⟨prim_42,prim_43,prim_44,prim_45,prim_46,prim_47,trivial⟩ fun a=>by kernel_rfl
theorem c19p_ok:ConOK tab 19 c19p:=Oc tab_19 rfl whileL [(42,Con.clone kiii),(43,Con.clone kiii),(44,Con.clone kiii),(45,Con.clone kiiiii),(46,Con.clone ki),(47,Con.clone kb)] ⟨prim_42,prim_43,prim_44,prim_45,prim_46,prim_47,trivial⟩ fun a=>by kernel_rfl
def cert_find_1 (p0:Int×Int×Int) (p1:Int):Option Int:=
 (cmp_Compare_int p0.1 p1).bind fun n0=>
 some n0
def c157:Con:=⟨Args.cons (Arg.agg (Cod.row kiii)) (Args.one (Arg.int .i64)),Arg.int .i64,fun a=>cert_find_1 a.1 a.2,.pure,false⟩
theorem c157_ok:ConOK tab 157 c157:=Oc tab_157 rfl whileL [(102,c102)] ⟨c102_ok,trivial⟩ fun a=>by kernel_rfl
def slices_BinarySearchFunc_Held_int__cert_find_1_l1 (s:((List (Int×Int×Int))×Int×Int×Int×Int)):Option (Step ((List (Int×Int×Int))×Int×Int×Int×Int) (Int×Bool)):=
 bif decide (s.2.2.2.1<s.2.2.2.2) then
  (geti s.1 (wrapF .i64 (bShr .u64 (wrapF .u64 (wrapF .i64 (s.2.2.2.1+s.2.2.2.2))) 1))).bind fun a0=>
  (cert_find_1 a0 s.2.1).bind fun n1=>
  bif decide (n1<0) then
   some (.next (s.1,s.2.1,s.2.2.1,wrapF .i64 ((wrapF .i64 (bShr .u64 (wrapF .u64 (wrapF .i64 (s.2.2.2.1+s.2.2.2.2))) 1))+1),s.2.2.2.2))
  else
   some (.next (s.1,s.2.1,s.2.2.1,s.2.2.2.1,wrapF .i64 (bShr .u64 (wrapF .u64 (wrapF .i64 (s.2.2.2.1+s.2.2.2.2))) 1)))
 else
  bif decide (s.2.2.2.1<s.2.2.1) then
   (geti s.1 s.2.2.2.1).bind fun a2=>
   (cert_find_1 a2 s.2.1).bind fun n3=>
   some (.done (s.2.2.2.1,n3==0))
  else
   some (.done (s.2.2.2.1,false))
def slices_BinarySearchFunc_Held_int__cert_find_1 (p0:List (Int×Int×Int)) (p1:Int) (_:Unit):Option (Int×Bool):=
 whileO slices_BinarySearchFunc_Held_int__cert_find_1_l1 (p0,p1,Int.ofNat p0.length,0,Int.ofNat p0.length)
def c156_157:Con:=⟨Args.cons (Arg.sl kiii) (Args.cons (Arg.int .i64) (Args.one (Arg.clo 157 Args.nil))),Arg.tup (Args.cons (Arg.int .i64) (Args.one Arg.bool)),fun a=>slices_BinarySearchFunc_Held_int__cert_find_1 a.1 a.2.1 a.2.2,.pure,false⟩
theorem c156_157_ok:ConOK tab 156 c156_157:=Oc tab_156 rfl whileL [(157,c157)] ⟨c157_ok,trivial⟩ fun a=>by kernel_rfl
def cert_find (p0:Certs) (p1:Int):Option (Int×Int):=
 (cert_Check p0).bind fun n0=>
 bif n0 !=0 then
  some (0,n0)
 else
  (slices_BinarySearchFunc_Held_int__cert_find_1 p0.list p1 ()).bind fun a1=>
  bif !a1.2 then
   some (0,6)
  else
   some (a1.1,0)
def c138:Con:=⟨Args.cons (Arg.agg Certs_c) (Args.one (Arg.int .i64)),Arg.tup (Args.cons (Arg.int .i64) (Args.one (Arg.int .i64))),fun a=>cert_find a.1 a.2,.pure,false⟩
theorem c138_ok:ConOK tab 138 c138:=Oc tab_138 rfl whileL [(30,c30),(156,c156_157)] ⟨c30_ok,c156_157_ok,trivial⟩ fun a=>by kernel_rfl
def slices_Delete_Held_w821 (a:(Int×Int×(List (Int×Int×Int)))):Option (Nat×Nat×(List (Int×Int×Int))):=
 bif (((decide (0<=a.1))&&(decide (a.1<=a.2.1)))&&(decide (a.2.1<=(Int.ofNat a.2.2.length))))&&(decide ((Int.ofNat a.2.2.length)<=(Int.ofNat a.2.2.length))) then
  bif a.1==a.2.1 then
   bif a.2.2.length==a.2.2.length then
    some (a.2.2.length,a.2.2.length,a.2.2)
   else
    none
  else
   (sliceO a.2.2 0 a.1).bind fun _=>
   bif ((decide (0<=a.2.1))&&(decide (a.2.1<=(Int.ofNat a.2.2.length))))&&(decide ((Int.ofNat a.2.2.length)<=(Int.ofNat a.2.2.length))) then
    bif ((a.2.2.drop (0+a.2.1.toNat)).take (((Int.ofNat a.2.2.length).toNat) -a.2.1.toNat)).isEmpty then
     bif ((decide (0<=(Int.ofNat a.1.toNat)))&&(decide ((Int.ofNat a.1.toNat)<=(Int.ofNat a.2.2.length))))&&(decide ((Int.ofNat a.2.2.length)<=(Int.ofNat a.2.2.length))) then
      bif Nat.beq (((Int.ofNat a.2.2.length).toNat) - ((Int.ofNat a.1.toNat).toNat)) 0 then
       bif a.2.2.length==a.2.2.length then
        some (a.1.toNat,a.2.2.length,a.2.2)
       else
        none
      else
       bif (Nat.ble ((0+((Int.ofNat a.1.toNat).toNat))+(((Int.ofNat a.2.2.length).toNat) - ((Int.ofNat a.1.toNat).toNat))) a.2.2.length)&&(!false) then
        bif ((layL a.2.2 (0+((Int.ofNat a.1.toNat).toNat)) (List.replicate (((Int.ofNat a.2.2.length).toNat) - ((Int.ofNat a.1.toNat).toNat)) (0,0,0))).length)==a.2.2.length then
         some (a.1.toNat,a.2.2.length,layL a.2.2 (0+((Int.ofNat a.1.toNat).toNat)) (List.replicate (((Int.ofNat a.2.2.length).toNat) - ((Int.ofNat a.1.toNat).toNat)) (0,0,0)))
        else
         none
       else
        none
     else
      none
    else
     bif Nat.ble (a.1.toNat+(((a.2.2.drop (0+a.2.1.toNat)).take (((Int.ofNat a.2.2.length).toNat) -a.2.1.toNat)).length)) a.2.2.length then
      bif (Nat.ble (a.1.toNat+(((a.2.2.drop (0+a.2.1.toNat)).take (((Int.ofNat a.2.2.length).toNat) -a.2.1.toNat)).length)) a.2.2.length)&&(!false) then
       bif ((decide (0<=(Int.ofNat (a.1.toNat+(((a.2.2.drop (0+a.2.1.toNat)).take (((Int.ofNat a.2.2.length).toNat) -a.2.1.toNat)).length)))))&&(decide ((Int.ofNat (a.1.toNat+(((a.2.2.drop (0+a.2.1.toNat)).take (((Int.ofNat a.2.2.length).toNat) -a.2.1.toNat)).length)))<=(Int.ofNat a.2.2.length))))&&(decide ((Int.ofNat a.2.2.length)<=(Int.ofNat a.2.2.length))) then
        bif Nat.beq (((Int.ofNat a.2.2.length).toNat) - ((Int.ofNat (a.1.toNat+(((a.2.2.drop (0+a.2.1.toNat)).take (((Int.ofNat a.2.2.length).toNat) -a.2.1.toNat)).length))).toNat)) 0 then
         bif ((layL a.2.2 a.1.toNat ((a.2.2.drop (0+a.2.1.toNat)).take (((Int.ofNat a.2.2.length).toNat) -a.2.1.toNat))).length)==a.2.2.length then
          some (a.1.toNat+(((a.2.2.drop (0+a.2.1.toNat)).take (((Int.ofNat a.2.2.length).toNat) -a.2.1.toNat)).length),a.2.2.length,layL a.2.2 a.1.toNat ((a.2.2.drop (0+a.2.1.toNat)).take (((Int.ofNat a.2.2.length).toNat) -a.2.1.toNat)))
         else
          none
        else
         bif (Nat.ble ((0+((Int.ofNat (a.1.toNat+(((a.2.2.drop (0+a.2.1.toNat)).take (((Int.ofNat a.2.2.length).toNat) -a.2.1.toNat)).length))).toNat))+(((Int.ofNat a.2.2.length).toNat) - ((Int.ofNat (a.1.toNat+(((a.2.2.drop (0+a.2.1.toNat)).take (((Int.ofNat a.2.2.length).toNat) -a.2.1.toNat)).length))).toNat))) ((layL a.2.2 a.1.toNat ((a.2.2.drop (0+a.2.1.toNat)).take (((Int.ofNat a.2.2.length).toNat) -a.2.1.toNat))).length))&&(!false) then
          bif ((layL (layL a.2.2 a.1.toNat ((a.2.2.drop (0+a.2.1.toNat)).take (((Int.ofNat a.2.2.length).toNat) -a.2.1.toNat))) (0+((Int.ofNat (a.1.toNat+(((a.2.2.drop (0+a.2.1.toNat)).take (((Int.ofNat a.2.2.length).toNat) -a.2.1.toNat)).length))).toNat)) (List.replicate (((Int.ofNat a.2.2.length).toNat) - ((Int.ofNat (a.1.toNat+(((a.2.2.drop (0+a.2.1.toNat)).take (((Int.ofNat a.2.2.length).toNat) -a.2.1.toNat)).length))).toNat)) (0,0,0))).length)==a.2.2.length then
           some (a.1.toNat+(((a.2.2.drop (0+a.2.1.toNat)).take (((Int.ofNat a.2.2.length).toNat) -a.2.1.toNat)).length),a.2.2.length,layL (layL a.2.2 a.1.toNat ((a.2.2.drop (0+a.2.1.toNat)).take (((Int.ofNat a.2.2.length).toNat) -a.2.1.toNat))) (0+((Int.ofNat (a.1.toNat+(((a.2.2.drop (0+a.2.1.toNat)).take (((Int.ofNat a.2.2.length).toNat) -a.2.1.toNat)).length))).toNat)) (List.replicate (((Int.ofNat a.2.2.length).toNat) - ((Int.ofNat (a.1.toNat+(((a.2.2.drop (0+a.2.1.toNat)).take (((Int.ofNat a.2.2.length).toNat) -a.2.1.toNat)).length))).toNat)) (0,0,0)))
          else
           none
         else
          none
       else
        none
      else
       none
     else
      none
   else
    none
 else
  none
def f139_0:FpCon:=⟨[.i,.i,.l [.i .i64,.i .i64,.i .i64]],[.own 0 false,.int .i64 0,.int .i64 0],[.arr [.i .i64,.i .i64,.i .i64] []],[.n,.n,.l [.i .i64,.i .i64,.i .i64]],.pre 0 0 0 false,[.arr [.i .i64,.i .i64,.i .i64] []],fun a=>slices_Delete_Held_w821 a⟩
theorem f139_0_ok:FpOK tab 139 f139_0:=FpOK.of tab_139 (wd:=true) (cx:=(mkCx whileL [] [] [] [])) (CxOK.make trivial trivial trivial) (fun a=>by kernel_rfl)
def cert_Remove (p0:Certs) (p1:Int):Option (Certs×(Int×Int)×Int):=
 (cert_find p0 p1).bind fun a0=>
 bif a0.2 !=0 then
  some (Certs.mk 0 [],(0,0),a0.2)
 else
  (cloneO p0.list).bind fun l1=>
  (slices_Delete_Held_w821 (a0.1,wrapF .i64 (a0.1+1),l1)).bind fun a2=>
  (geti p0.list a0.1).bind fun a3=>
  some (Certs.mk p0.next_ (a2.2.2.take a2.1),a3.2,0)
def c109:Con:=⟨Args.cons (Arg.agg Certs_c) (Args.one (Arg.int .i64)),Arg.tup (Args.cons (Arg.agg Certs_c) (Args.cons (Arg.agg (Cod.row kii)) (Args.one (Arg.int .i64)))),fun a=>cert_Remove a.1 a.2,.frz,false⟩
theorem c109_ok:ConOK tab 109 c109:=ConOK.of tab_109 (cx:=(mkCx whileL [(138,c138),(43,Con.clone kiii)] [(139,f139_0)] [] [])) rfl (CxOK.make ⟨c138_ok,prim_43,trivial⟩ ⟨f139_0_ok,trivial⟩ trivial) (fun a=>by kernel_rfl)
def clock_twin (p0:Clock):Option Clock:=
 (cloneO p0.field.points).bind fun l0=>
 (cloneO p0.certs.list).bind fun l1=>
 (cloneO p0.due).bind fun l2=>
 (cloneO p0.agenda.heap).bind fun l3=>
 (cloneO p0.agenda.where_).bind fun l4=>
 (cloneO p0.agenda.slots.uses).bind fun l5=>
 (cloneO p0.agenda.slots.used).bind fun l6=>
 (cloneO p0.agenda.slots.free).bind fun l7=>
 some (Clock.mk p0.now (Field.mk l0) (Certs.mk p0.certs.next_ l1) (Agenda.mk (Slots.mk l5 l6 l7) l3 l4) l2)
def c74:Con:=⟨Args.one (Arg.agg Clock_c),Arg.agg Clock_c,fun a=>clock_twin a,.own,true⟩
def c74p:Con:=⟨Args.one (Arg.agg Clock_c),Arg.agg Clock_c,fun a=>clock_twin a,.frz,false⟩
theorem c74_ok:ConOK tab 74 c74:=Oc tab_74 rfl whileL [(42,Con.clone kiii),(43,Con.clone kiii),(44,Con.clone kiii),(45,Con.clone kiiiii),(46,Con.clone ki),(47,Con.clone kb)] ⟨prim_42,prim_43,prim_44,prim_45,prim_46,prim_47,trivial⟩ fun a=>by kernel_rfl
theorem c74p_ok:ConOK tab 74 c74p:=Oc tab_74 rfl whileL [(42,Con.clone kiii),(43,Con.clone kiii),(44,Con.clone kiii),(45,Con.clone kiiiii),(46,Con.clone ki),(47,Con.clone kb)] ⟨prim_42,prim_43,prim_44,prim_45,prim_46,prim_47,trivial⟩ fun a=>by kernel_rfl
def clock_place_1 (p0:Int×Int×Int) (p1:Int):Option Int:=
 (cmp_Compare_int p0.1 p1).bind fun n0=>
 some n0
def c112:Con:=⟨Args.cons (Arg.agg (Cod.row kiii)) (Args.one (Arg.int .i64)),Arg.int .i64,fun a=>clock_place_1 a.1 a.2,.pure,false⟩
theorem c112_ok:ConOK tab 112 c112:=Oc tab_112 rfl whileL [(102,c102)] ⟨c102_ok,trivial⟩ fun a=>by kernel_rfl
def slices_BinarySearchFunc_Due_int__clock_place_1_l1 (s:((List (Int×Int×Int))×Int×Int×Int×Int)):Option (Step ((List (Int×Int×Int))×Int×Int×Int×Int) (Int×Bool)):=
 bif decide (s.2.2.2.1<s.2.2.2.2) then
  (geti s.1 (wrapF .i64 (bShr .u64 (wrapF .u64 (wrapF .i64 (s.2.2.2.1+s.2.2.2.2))) 1))).bind fun a0=>
  (clock_place_1 a0 s.2.1).bind fun n1=>
  bif decide (n1<0) then
   some (.next (s.1,s.2.1,s.2.2.1,wrapF .i64 ((wrapF .i64 (bShr .u64 (wrapF .u64 (wrapF .i64 (s.2.2.2.1+s.2.2.2.2))) 1))+1),s.2.2.2.2))
  else
   some (.next (s.1,s.2.1,s.2.2.1,s.2.2.2.1,wrapF .i64 (bShr .u64 (wrapF .u64 (wrapF .i64 (s.2.2.2.1+s.2.2.2.2))) 1)))
 else
  bif decide (s.2.2.2.1<s.2.2.1) then
   (geti s.1 s.2.2.2.1).bind fun a2=>
   (clock_place_1 a2 s.2.1).bind fun n3=>
   some (.done (s.2.2.2.1,n3==0))
  else
   some (.done (s.2.2.2.1,false))
def slices_BinarySearchFunc_Due_int__clock_place_1 (p0:List (Int×Int×Int)) (p1:Int) (_:Unit):Option (Int×Bool):=
 whileO slices_BinarySearchFunc_Due_int__clock_place_1_l1 (p0,p1,Int.ofNat p0.length,0,Int.ofNat p0.length)
def c111_112:Con:=⟨Args.cons (Arg.sl kiii) (Args.cons (Arg.int .i64) (Args.one (Arg.clo 112 Args.nil))),Arg.tup (Args.cons (Arg.int .i64) (Args.one Arg.bool)),fun a=>slices_BinarySearchFunc_Due_int__clock_place_1 a.1 a.2.1 a.2.2,.pure,false⟩
theorem c111_112_ok:ConOK tab 111 c111_112:=Oc tab_111 rfl whileL [(112,c112)] ⟨c112_ok,trivial⟩ fun a=>by kernel_rfl
def clock_place (p0:List (Int×Int×Int)) (p1:Int):Option (Int×Bool):=
 (slices_BinarySearchFunc_Due_int__clock_place_1 p0 p1 ()).bind fun a0=>
 some a0
def c75:Con:=⟨Args.cons (Arg.sl kiii) (Args.one (Arg.int .i64)),Arg.tup (Args.cons (Arg.int .i64) (Args.one Arg.bool)),fun a=>clock_place a.1 a.2,.pure,false⟩
theorem c75_ok:ConOK tab 75 c75:=Oc tab_75 rfl whileL [(111,c111_112)] ⟨c111_112_ok,trivial⟩ fun a=>by kernel_rfl
def slot_Has (p0:Slots) (p1:Int×Int):Option (Bool×Int):=
 (slot_Check p0).bind fun n0=>
 bif n0 !=0 then
  some (false,n0)
 else
  bif decide (0<=p1.1) then
   bif decide (p1.1<(Int.ofNat p0.used.length)) then
    (geti p0.used p1.1).bind fun b1=>
    bif b1 then
     (geti p0.uses p1.1).bind fun n2=>
     some (n2==p1.2,0)
    else
     some (false,0)
   else
    some (false,0)
  else
   some (false,0)
def c140:Con:=⟨Args.cons (Arg.agg Slots_c) (Args.one (Arg.agg (Cod.row kii))),Arg.tup (Args.cons Arg.bool (Args.one (Arg.int .i64))),fun a=>slot_Has a.1 a.2,.pure,false⟩
theorem c140_ok:ConOK tab 140 c140:=Oc tab_140 rfl whileL [(67,c67)] ⟨c67_ok,trivial⟩ fun a=>by kernel_rfl
def agenda_place (p0:Agenda) (p1:Int×Int):Option (Int×Int):=
 (agenda_Check p0).bind fun n0=>
 bif n0 !=0 then
  some (0,n0)
 else
  (slot_Has p0.slots p1).bind fun a1=>
  bif a1.2 !=0 then
   some (0,6)
  else
   bif !a1.1 then
    some (0,6)
   else
    (geti p0.where_ p1.1).bind fun n2=>
    some (n2,0)
def c113:Con:=⟨Args.cons (Arg.agg Agenda_c) (Args.one (Arg.agg (Cod.row kii))),Arg.tup (Args.cons (Arg.int .i64) (Args.one (Arg.int .i64))),fun a=>agenda_place a.1 a.2,.pure,false⟩
theorem c113_ok:ConOK tab 113 c113:=Oc tab_113 rfl whileL [(31,c31),(140,c140)] ⟨c31_ok,c140_ok,trivial⟩ fun a=>by kernel_rfl
theorem prim_158:ConOK tab 158 (Con.clone ki):=ConOK.clone tab_158 rfl
def slot_stack_push (p0:List Int) (p1:Int):Option (List Int):=
 (cloneO p0).bind fun l0=>
 (appendO l0 [p1]).bind fun l1=>
 some l1
def c159:Con:=⟨Args.cons (Arg.sl ki) (Args.one (Arg.int .i64)),Arg.sl ki,fun a=>slot_stack_push a.1 a.2,.frz,false⟩
theorem c159_ok:ConOK tab 159 c159:=Oc tab_159 rfl whileL [(158,Con.clone ki)] ⟨prim_158,trivial⟩ fun a=>by kernel_rfl
def slot_Give (p0:Slots) (p1:Int×Int):Option (Slots×Int):=
 (slot_Has p0 p1).bind fun a0=>
 bif a0.2 !=0 then
  some (Slots.mk [] [] [],a0.2)
 else
  bif !a0.1 then
   some (Slots.mk [] [] [],6)
  else
   (cloneO p0.uses).bind fun l1=>
   (cloneO p0.used).bind fun l2=>
   (slot_stack_push p0.free p1.1).bind fun l3=>
   (geti l2 p1.1).bind fun _=>
   some (Slots.mk l1 (seti l2 p1.1 false) l3,0)
def c145:Con:=⟨Args.cons (Arg.agg Slots_c) (Args.one (Arg.agg (Cod.row kii))),Arg.tup (Args.cons (Arg.agg Slots_c) (Args.one (Arg.int .i64))),fun a=>slot_Give a.1 a.2,.frz,false⟩
theorem c145_ok:ConOK tab 145 c145:=ConOK.of tab_145 (cx:=(mkCx whileL [(140,c140),(46,Con.clone ki),(47,Con.clone kb),(159,c159)] [] [(144,x144)] [])) rfl (CxOK.make ⟨c140_ok,prim_46,prim_47,c159_ok,trivial⟩ trivial ⟨tab_144,trivial⟩) (fun a=>by kernel_rfl)
def agenda_set_w1656 (a:((List Int)×(List Bool)×(List Int)×Nat×Nat×Int×Int×Int×Int×Int×Int×(List (Int×Int×Int×Int×Int))×(List Int))):Option ((List (Int×Int×Int×Int×Int))×(List Int)):=
 (geti (a.2.2.2.2.2.2.2.2.2.2.2.1.take a.2.2.2.1) a.2.2.2.2.2.1).bind fun _=>
 (geti a.2.2.2.2.2.2.2.2.2.2.2.2 a.2.2.2.2.2.2.2.2.2.1).bind fun _=>
 bif ((seti a.2.2.2.2.2.2.2.2.2.2.2.1 a.2.2.2.2.2.1 (a.2.2.2.2.2.2.1,a.2.2.2.2.2.2.2.1,a.2.2.2.2.2.2.2.2.1,a.2.2.2.2.2.2.2.2.2.1,a.2.2.2.2.2.2.2.2.2.2.1)).length)==a.2.2.2.2.2.2.2.2.2.2.2.1.length then
  bif ((seti a.2.2.2.2.2.2.2.2.2.2.2.2 a.2.2.2.2.2.2.2.2.2.1 a.2.2.2.2.2.1).length)==a.2.2.2.2.2.2.2.2.2.2.2.2.length then
   some (seti a.2.2.2.2.2.2.2.2.2.2.2.1 a.2.2.2.2.2.1 (a.2.2.2.2.2.2.1,a.2.2.2.2.2.2.2.1,a.2.2.2.2.2.2.2.2.1,a.2.2.2.2.2.2.2.2.2.1,a.2.2.2.2.2.2.2.2.2.2.1),seti a.2.2.2.2.2.2.2.2.2.2.2.2 a.2.2.2.2.2.2.2.2.2.1 a.2.2.2.2.2.1)
  else
   none
 else
  none
def f141_0:FpCon:=⟨[.l [.i .i64],.l [.b],.l [.i .i64],.n,.n,.i,.i,.i,.i,.i,.i,.l [.i .i64,.i .i64,.i .i64,.i .i64,.i .i64],.l [.i .i64]],[.agg [.sl [.i .i64] [],.sl [.b] [],.sl [.i .i64] [],.pre 0 0 0 false,.own 1 false],.int .i64 0,.agg [.int .i64 0,.int .i64 0,.int .i64 0,.int .i64 0,.int .i64 0]],[.arr [.i .i64,.i .i64,.i .i64,.i .i64,.i .i64] [],.arr [.i .i64] []],[.l [.i .i64,.i .i64,.i .i64,.i .i64,.i .i64],.l [.i .i64]],.tup [],[.arr [.i .i64,.i .i64,.i .i64,.i .i64,.i .i64] [],.arr [.i .i64] []],fun a=>agenda_set_w1656 a⟩
theorem f141_0_ok:FpOK tab 141 f141_0:=FpOK.of tab_141 (wd:=false) (cx:=(mkCx whileL [] [] [] [])) (CxOK.make trivial trivial trivial) (fun a=>by kernel_rfl)
def agenda_settle_w1656_l1 (c0:((List Int)×(List Bool)×(List Int)×Nat×Nat×Int×Int×Int×Int×Int×Int×(List (Int×Int×Int×Int×Int))×(List Int))) (s:(Int×Int×(List (Int×Int×Int×Int×Int))×(List Int)×(List Int)×(List Bool)×(List Int)×Nat×Nat×Int×Int×Int×Int×Int)):Option (Step (Int×Int×(List (Int×Int×Int×Int×Int))×(List Int)×(List Int)×(List Bool)×(List Int)×Nat×Nat×Int×Int×Int×Int×Int) (Step (Int×(List (Int×Int×Int×Int×Int))×(List Int)×(List Int)×(List Bool)×(List Int)×Nat×Nat×Int×Int×Int×Int×Int) ((List (Int×Int×Int×Int×Int))×(List Int)))):=
 bif decide (s.2.1<(Int.ofNat s.2.2.2.2.2.2.2.1)) then
  bif decide ((wrapF .i64 (s.2.1+1))<(Int.ofNat s.2.2.2.2.2.2.2.1)) then
   (geti (s.2.2.1.take s.2.2.2.2.2.2.2.1) (wrapF .i64 (s.2.1+1))).bind fun a0=>
   (geti (s.2.2.1.take s.2.2.2.2.2.2.2.1) s.2.1).bind fun a1=>
   (agenda_compare a0 a1).bind fun n2=>
   bif decide (n2<0) then
    (geti (s.2.2.1.take s.2.2.2.2.2.2.2.1) (wrapF .i64 (s.2.1+1))).bind fun a3=>
    (agenda_compare a3 s.2.2.2.2.2.2.2.2.2).bind fun n4=>
    bif decide (0<=n4) then
     (agenda_set_w1656 (s.2.2.2.2.1,s.2.2.2.2.2.1,s.2.2.2.2.2.2.1,s.2.2.2.2.2.2.2.1,s.2.2.2.2.2.2.2.2.1,s.1,s.2.2.2.2.2.2.2.2.2.1,s.2.2.2.2.2.2.2.2.2.2.1,s.2.2.2.2.2.2.2.2.2.2.2.1,s.2.2.2.2.2.2.2.2.2.2.2.2.1,s.2.2.2.2.2.2.2.2.2.2.2.2.2,s.2.2.1,s.2.2.2.1)).bind fun a5=>
     bif a5.1.length==c0.2.2.2.2.2.2.2.2.2.2.2.1.length then
      bif a5.2.length==c0.2.2.2.2.2.2.2.2.2.2.2.2.length then
       some (.done (.done a5))
      else
       none
     else
      none
    else
     (geti (s.2.2.1.take s.2.2.2.2.2.2.2.1) (wrapF .i64 (s.2.1+1))).bind fun a6=>
     (agenda_set_w1656 (s.2.2.2.2.1,s.2.2.2.2.2.1,s.2.2.2.2.2.2.1,s.2.2.2.2.2.2.2.1,s.2.2.2.2.2.2.2.2.1,s.1,a6.1,a6.2.1,a6.2.2.1,a6.2.2.2.1,a6.2.2.2.2,s.2.2.1,s.2.2.2.1)).bind fun a7=>
     some (.next (wrapF .i64 (s.2.1+1),wrapF .i64 ((wrapF .i64 (2*(wrapF .i64 (s.2.1+1))))+1),a7.1,a7.2,s.2.2.2.2))
   else
    (geti (s.2.2.1.take s.2.2.2.2.2.2.2.1) s.2.1).bind fun a8=>
    (agenda_compare a8 s.2.2.2.2.2.2.2.2.2).bind fun n9=>
    bif decide (0<=n9) then
     (agenda_set_w1656 (s.2.2.2.2.1,s.2.2.2.2.2.1,s.2.2.2.2.2.2.1,s.2.2.2.2.2.2.2.1,s.2.2.2.2.2.2.2.2.1,s.1,s.2.2.2.2.2.2.2.2.2.1,s.2.2.2.2.2.2.2.2.2.2.1,s.2.2.2.2.2.2.2.2.2.2.2.1,s.2.2.2.2.2.2.2.2.2.2.2.2.1,s.2.2.2.2.2.2.2.2.2.2.2.2.2,s.2.2.1,s.2.2.2.1)).bind fun a10=>
     bif a10.1.length==c0.2.2.2.2.2.2.2.2.2.2.2.1.length then
      bif a10.2.length==c0.2.2.2.2.2.2.2.2.2.2.2.2.length then
       some (.done (.done a10))
      else
       none
     else
      none
    else
     (geti (s.2.2.1.take s.2.2.2.2.2.2.2.1) s.2.1).bind fun a11=>
     (agenda_set_w1656 (s.2.2.2.2.1,s.2.2.2.2.2.1,s.2.2.2.2.2.2.1,s.2.2.2.2.2.2.2.1,s.2.2.2.2.2.2.2.2.1,s.1,a11.1,a11.2.1,a11.2.2.1,a11.2.2.2.1,a11.2.2.2.2,s.2.2.1,s.2.2.2.1)).bind fun a12=>
     some (.next (s.2.1,wrapF .i64 ((wrapF .i64 (2*s.2.1))+1),a12.1,a12.2,s.2.2.2.2))
  else
   (geti (s.2.2.1.take s.2.2.2.2.2.2.2.1) s.2.1).bind fun a13=>
   (agenda_compare a13 s.2.2.2.2.2.2.2.2.2).bind fun n14=>
   bif decide (0<=n14) then
    (agenda_set_w1656 (s.2.2.2.2.1,s.2.2.2.2.2.1,s.2.2.2.2.2.2.1,s.2.2.2.2.2.2.2.1,s.2.2.2.2.2.2.2.2.1,s.1,s.2.2.2.2.2.2.2.2.2.1,s.2.2.2.2.2.2.2.2.2.2.1,s.2.2.2.2.2.2.2.2.2.2.2.1,s.2.2.2.2.2.2.2.2.2.2.2.2.1,s.2.2.2.2.2.2.2.2.2.2.2.2.2,s.2.2.1,s.2.2.2.1)).bind fun a15=>
    bif a15.1.length==c0.2.2.2.2.2.2.2.2.2.2.2.1.length then
     bif a15.2.length==c0.2.2.2.2.2.2.2.2.2.2.2.2.length then
      some (.done (.done a15))
     else
      none
    else
     none
   else
    (geti (s.2.2.1.take s.2.2.2.2.2.2.2.1) s.2.1).bind fun a16=>
    (agenda_set_w1656 (s.2.2.2.2.1,s.2.2.2.2.2.1,s.2.2.2.2.2.2.1,s.2.2.2.2.2.2.2.1,s.2.2.2.2.2.2.2.2.1,s.1,a16.1,a16.2.1,a16.2.2.1,a16.2.2.2.1,a16.2.2.2.2,s.2.2.1,s.2.2.2.1)).bind fun a17=>
    some (.next (s.2.1,wrapF .i64 ((wrapF .i64 (2*s.2.1))+1),a17.1,a17.2,s.2.2.2.2))
 else
  (agenda_set_w1656 (s.2.2.2.2.1,s.2.2.2.2.2.1,s.2.2.2.2.2.2.1,s.2.2.2.2.2.2.2.1,s.2.2.2.2.2.2.2.2.1,s.1,s.2.2.2.2.2.2.2.2.2.1,s.2.2.2.2.2.2.2.2.2.2.1,s.2.2.2.2.2.2.2.2.2.2.2.1,s.2.2.2.2.2.2.2.2.2.2.2.2.1,s.2.2.2.2.2.2.2.2.2.2.2.2.2,s.2.2.1,s.2.2.2.1)).bind fun a18=>
  bif a18.1.length==c0.2.2.2.2.2.2.2.2.2.2.2.1.length then
   bif a18.2.length==c0.2.2.2.2.2.2.2.2.2.2.2.2.length then
    some (.done (.done a18))
   else
    none
  else
   none
def agenda_settle_w1656_l2 (c0:((List Int)×(List Bool)×(List Int)×Nat×Nat×Int×Int×Int×Int×Int×Int×(List (Int×Int×Int×Int×Int))×(List Int))) (s:(Int×(List (Int×Int×Int×Int×Int))×(List Int)×(List Int)×(List Bool)×(List Int)×Nat×Nat×Int×Int×Int×Int×Int)):Option (Step (Int×(List (Int×Int×Int×Int×Int))×(List Int)×(List Int)×(List Bool)×(List Int)×Nat×Nat×Int×Int×Int×Int×Int) ((List (Int×Int×Int×Int×Int))×(List Int))):=
 bif decide (0<s.1) then
  (geti (s.2.1.take s.2.2.2.2.2.2.1) (wrapF .i64 (Int.tdiv (wrapF .i64 (s.1-1)) 2))).bind fun a0=>
  (agenda_compare s.2.2.2.2.2.2.2.2 a0).bind fun n1=>
  bif decide (n1<0) then
   (geti (s.2.1.take s.2.2.2.2.2.2.1) (wrapF .i64 (Int.tdiv (wrapF .i64 (s.1-1)) 2))).bind fun a2=>
   (agenda_set_w1656 (s.2.2.2.1,s.2.2.2.2.1,s.2.2.2.2.2.1,s.2.2.2.2.2.2.1,s.2.2.2.2.2.2.2.1,s.1,a2.1,a2.2.1,a2.2.2.1,a2.2.2.2.1,a2.2.2.2.2,s.2.1,s.2.2.1)).bind fun a3=>
   some (.next (wrapF .i64 (Int.tdiv (wrapF .i64 (s.1-1)) 2),a3.1,a3.2,s.2.2.2))
  else
   whileO (agenda_settle_w1656_l1 c0) (s.1,wrapF .i64 ((wrapF .i64 (2*s.1))+1),s.2)
 else
  whileO (agenda_settle_w1656_l1 c0) (s.1,wrapF .i64 ((wrapF .i64 (2*s.1))+1),s.2)
def agenda_settle_w1656 (a:((List Int)×(List Bool)×(List Int)×Nat×Nat×Int×Int×Int×Int×Int×Int×(List (Int×Int×Int×Int×Int))×(List Int))):Option ((List (Int×Int×Int×Int×Int))×(List Int)):=
 whileO (agenda_settle_w1656_l2 a) (a.2.2.2.2.2.1,a.2.2.2.2.2.2.2.2.2.2.2.1,a.2.2.2.2.2.2.2.2.2.2.2.2,a.1,a.2.1,a.2.2.1,a.2.2.2.1,a.2.2.2.2.1,a.2.2.2.2.2.2.1,a.2.2.2.2.2.2.2.1,a.2.2.2.2.2.2.2.2.1,a.2.2.2.2.2.2.2.2.2.1,a.2.2.2.2.2.2.2.2.2.2.1)
def f115_0:FpCon:=⟨[.l [.i .i64],.l [.b],.l [.i .i64],.n,.n,.i,.i,.i,.i,.i,.i,.l [.i .i64,.i .i64,.i .i64,.i .i64,.i .i64],.l [.i .i64]],[.agg [.sl [.i .i64] [],.sl [.b] [],.sl [.i .i64] [],.pre 0 0 0 false,.own 1 false],.int .i64 0,.agg [.int .i64 0,.int .i64 0,.int .i64 0,.int .i64 0,.int .i64 0]],[.arr [.i .i64,.i .i64,.i .i64,.i .i64,.i .i64] [],.arr [.i .i64] []],[.l [.i .i64,.i .i64,.i .i64,.i .i64,.i .i64],.l [.i .i64]],.tup [],[.arr [.i .i64,.i .i64,.i .i64,.i .i64,.i .i64] [],.arr [.i .i64] []],fun a=>agenda_settle_w1656 a⟩
theorem f115_0_ok:FpOK tab 115 f115_0:=FpOK.of tab_115 (wd:=false) (cx:=(mkCx whileL [(68,c68)] [(141,f141_0)] [] [])) (CxOK.make ⟨c68_ok,trivial⟩ ⟨f141_0_ok,trivial⟩ trivial) (fun a=>by kernel_rfl)
def agenda_remove (p0:Agenda) (p1:Int):Option (Agenda×(Int×Int×Int×Int×Int)×Int):=
 (geti p0.heap p1).bind fun a0=>
 (slot_Give p0.slots a0.2.2.2).bind fun a1=>
 bif a1.2 !=0 then
  some (Agenda.mk (Slots.mk [] [] []) [] [],(0,0,0,0,0),a1.2)
 else
  (cloneO p0.heap).bind fun l2=>
  (cloneO p0.where_).bind fun l3=>
  (geti l2 (wrapF .i64 ((Int.ofNat l2.length) -1))).bind fun a4=>
  (sliceO l2 0 (wrapF .i64 ((Int.ofNat l2.length) -1))).bind fun _=>
  (geti l3 a0.2.2.2.1).bind fun _=>
  bif decide (p1<(wrapF .i64 ((Int.ofNat l2.length) -1))) then
   (agenda_settle_w1656 (a1.1.uses,a1.1.used,a1.1.free,(wrapF .i64 ((Int.ofNat l2.length) -1)).toNat,l2.length,p1,a4.1,a4.2.1,a4.2.2.1,a4.2.2.2.1,a4.2.2.2.2,l2,seti l3 a0.2.2.2.1 (-1))).bind fun a7=>
   some (Agenda.mk a1.1 (a7.1.take ((wrapF .i64 ((Int.ofNat l2.length) -1)).toNat)) a7.2,a0,0)
  else
   some (Agenda.mk a1.1 (l2.take ((wrapF .i64 ((Int.ofNat l2.length) -1)).toNat)) (seti l3 a0.2.2.2.1 (-1)),a0,0)
def c119:Con:=⟨Args.cons (Arg.agg Agenda_c) (Args.one (Arg.int .i64)),Arg.tup (Args.cons (Arg.agg Agenda_c) (Args.cons (Arg.agg (Cod.row kiiiii)) (Args.one (Arg.int .i64)))),fun a=>agenda_remove a.1 a.2,.frz,false⟩
theorem c119_ok:ConOK tab 119 c119:=ConOK.of tab_119 (cx:=(mkCx whileL [(145,c145),(45,Con.clone kiiiii),(46,Con.clone ki)] [(115,f115_0)] [(114,x114)] [])) rfl (CxOK.make ⟨c145_ok,prim_45,prim_46,trivial⟩ ⟨f115_0_ok,trivial⟩ ⟨tab_114,trivial⟩) (fun a=>by kernel_rfl)
def agenda_Remove (p0:Agenda) (p1:Int×Int):Option (Agenda×(Int×Int×Int×Int×Int)×Int):=
 (agenda_place p0 p1).bind fun a0=>
 bif a0.2 !=0 then
  some (Agenda.mk (Slots.mk [] [] []) [] [],(0,0,0,0,0),a0.2)
 else
  (agenda_remove p0 a0.1).bind fun a1=>
  some a1
def c78:Con:=⟨Args.cons (Arg.agg Agenda_c) (Args.one (Arg.agg (Cod.row kii))),Arg.tup (Args.cons (Arg.agg Agenda_c) (Args.cons (Arg.agg (Cod.row kiiiii)) (Args.one (Arg.int .i64)))),fun a=>agenda_Remove a.1 a.2,.frz,false⟩
theorem c78_ok:ConOK tab 78 c78:=Oc tab_78 rfl whileL [(113,c113),(119,c119)] ⟨c113_ok,c119_ok,trivial⟩ fun a=>by kernel_rfl
def slices_Delete_Due_w821 (a:(Int×Int×(List (Int×Int×Int)))):Option (Nat×Nat×(List (Int×Int×Int))):=
 bif (((decide (0<=a.1))&&(decide (a.1<=a.2.1)))&&(decide (a.2.1<=(Int.ofNat a.2.2.length))))&&(decide ((Int.ofNat a.2.2.length)<=(Int.ofNat a.2.2.length))) then
  bif a.1==a.2.1 then
   bif a.2.2.length==a.2.2.length then
    some (a.2.2.length,a.2.2.length,a.2.2)
   else
    none
  else
   (sliceO a.2.2 0 a.1).bind fun _=>
   bif ((decide (0<=a.2.1))&&(decide (a.2.1<=(Int.ofNat a.2.2.length))))&&(decide ((Int.ofNat a.2.2.length)<=(Int.ofNat a.2.2.length))) then
    bif ((a.2.2.drop (0+a.2.1.toNat)).take (((Int.ofNat a.2.2.length).toNat) -a.2.1.toNat)).isEmpty then
     bif ((decide (0<=(Int.ofNat a.1.toNat)))&&(decide ((Int.ofNat a.1.toNat)<=(Int.ofNat a.2.2.length))))&&(decide ((Int.ofNat a.2.2.length)<=(Int.ofNat a.2.2.length))) then
      bif Nat.beq (((Int.ofNat a.2.2.length).toNat) - ((Int.ofNat a.1.toNat).toNat)) 0 then
       bif a.2.2.length==a.2.2.length then
        some (a.1.toNat,a.2.2.length,a.2.2)
       else
        none
      else
       bif (Nat.ble ((0+((Int.ofNat a.1.toNat).toNat))+(((Int.ofNat a.2.2.length).toNat) - ((Int.ofNat a.1.toNat).toNat))) a.2.2.length)&&(!false) then
        bif ((layL a.2.2 (0+((Int.ofNat a.1.toNat).toNat)) (List.replicate (((Int.ofNat a.2.2.length).toNat) - ((Int.ofNat a.1.toNat).toNat)) (0,0,0))).length)==a.2.2.length then
         some (a.1.toNat,a.2.2.length,layL a.2.2 (0+((Int.ofNat a.1.toNat).toNat)) (List.replicate (((Int.ofNat a.2.2.length).toNat) - ((Int.ofNat a.1.toNat).toNat)) (0,0,0)))
        else
         none
       else
        none
     else
      none
    else
     bif Nat.ble (a.1.toNat+(((a.2.2.drop (0+a.2.1.toNat)).take (((Int.ofNat a.2.2.length).toNat) -a.2.1.toNat)).length)) a.2.2.length then
      bif (Nat.ble (a.1.toNat+(((a.2.2.drop (0+a.2.1.toNat)).take (((Int.ofNat a.2.2.length).toNat) -a.2.1.toNat)).length)) a.2.2.length)&&(!false) then
       bif ((decide (0<=(Int.ofNat (a.1.toNat+(((a.2.2.drop (0+a.2.1.toNat)).take (((Int.ofNat a.2.2.length).toNat) -a.2.1.toNat)).length)))))&&(decide ((Int.ofNat (a.1.toNat+(((a.2.2.drop (0+a.2.1.toNat)).take (((Int.ofNat a.2.2.length).toNat) -a.2.1.toNat)).length)))<=(Int.ofNat a.2.2.length))))&&(decide ((Int.ofNat a.2.2.length)<=(Int.ofNat a.2.2.length))) then
        bif Nat.beq (((Int.ofNat a.2.2.length).toNat) - ((Int.ofNat (a.1.toNat+(((a.2.2.drop (0+a.2.1.toNat)).take (((Int.ofNat a.2.2.length).toNat) -a.2.1.toNat)).length))).toNat)) 0 then
         bif ((layL a.2.2 a.1.toNat ((a.2.2.drop (0+a.2.1.toNat)).take (((Int.ofNat a.2.2.length).toNat) -a.2.1.toNat))).length)==a.2.2.length then
          some (a.1.toNat+(((a.2.2.drop (0+a.2.1.toNat)).take (((Int.ofNat a.2.2.length).toNat) -a.2.1.toNat)).length),a.2.2.length,layL a.2.2 a.1.toNat ((a.2.2.drop (0+a.2.1.toNat)).take (((Int.ofNat a.2.2.length).toNat) -a.2.1.toNat)))
         else
          none
        else
         bif (Nat.ble ((0+((Int.ofNat (a.1.toNat+(((a.2.2.drop (0+a.2.1.toNat)).take (((Int.ofNat a.2.2.length).toNat) -a.2.1.toNat)).length))).toNat))+(((Int.ofNat a.2.2.length).toNat) - ((Int.ofNat (a.1.toNat+(((a.2.2.drop (0+a.2.1.toNat)).take (((Int.ofNat a.2.2.length).toNat) -a.2.1.toNat)).length))).toNat))) ((layL a.2.2 a.1.toNat ((a.2.2.drop (0+a.2.1.toNat)).take (((Int.ofNat a.2.2.length).toNat) -a.2.1.toNat))).length))&&(!false) then
          bif ((layL (layL a.2.2 a.1.toNat ((a.2.2.drop (0+a.2.1.toNat)).take (((Int.ofNat a.2.2.length).toNat) -a.2.1.toNat))) (0+((Int.ofNat (a.1.toNat+(((a.2.2.drop (0+a.2.1.toNat)).take (((Int.ofNat a.2.2.length).toNat) -a.2.1.toNat)).length))).toNat)) (List.replicate (((Int.ofNat a.2.2.length).toNat) - ((Int.ofNat (a.1.toNat+(((a.2.2.drop (0+a.2.1.toNat)).take (((Int.ofNat a.2.2.length).toNat) -a.2.1.toNat)).length))).toNat)) (0,0,0))).length)==a.2.2.length then
           some (a.1.toNat+(((a.2.2.drop (0+a.2.1.toNat)).take (((Int.ofNat a.2.2.length).toNat) -a.2.1.toNat)).length),a.2.2.length,layL (layL a.2.2 a.1.toNat ((a.2.2.drop (0+a.2.1.toNat)).take (((Int.ofNat a.2.2.length).toNat) -a.2.1.toNat))) (0+((Int.ofNat (a.1.toNat+(((a.2.2.drop (0+a.2.1.toNat)).take (((Int.ofNat a.2.2.length).toNat) -a.2.1.toNat)).length))).toNat)) (List.replicate (((Int.ofNat a.2.2.length).toNat) - ((Int.ofNat (a.1.toNat+(((a.2.2.drop (0+a.2.1.toNat)).take (((Int.ofNat a.2.2.length).toNat) -a.2.1.toNat)).length))).toNat)) (0,0,0)))
          else
           none
         else
          none
       else
        none
      else
       none
     else
      none
   else
    none
 else
  none
def f110_0:FpCon:=⟨[.i,.i,.l [.i .i64,.i .i64,.i .i64]],[.own 0 false,.int .i64 0,.int .i64 0],[.arr [.i .i64,.i .i64,.i .i64] []],[.n,.n,.l [.i .i64,.i .i64,.i .i64]],.pre 0 0 0 false,[.arr [.i .i64,.i .i64,.i .i64] []],fun a=>slices_Delete_Due_w821 a⟩
theorem f110_0_ok:FpOK tab 110 f110_0:=FpOK.of tab_110 (wd:=true) (cx:=(mkCx whileL [] [] [] [])) (CxOK.make trivial trivial trivial) (fun a=>by kernel_rfl)
def clock_drop (p0:Clock) (p1:Int):Option (Clock×(Int×Int)×Int):=
 (cert_Remove p0.certs p1).bind fun a0=>
 bif a0.2.2 !=0 then
  some (Clock.mk (0,0) (Field.mk []) (Certs.mk 0 []) (Agenda.mk (Slots.mk [] [] []) [] []) [],a0.2)
 else
  (clock_twin p0).bind fun r1=>
  (clock_place p0.due p1).bind fun a2=>
  bif a2.2 then
   (geti p0.due a2.1).bind fun a3=>
   (agenda_Remove p0.agenda a3.2).bind fun a4=>
   bif a4.2.2 !=0 then
    some (Clock.mk (0,0) (Field.mk []) (Certs.mk 0 []) (Agenda.mk (Slots.mk [] [] []) [] []) [],a0.2.1,a4.2.2)
   else
    (slices_Delete_Due_w821 (a2.1,wrapF .i64 (a2.1+1),r1.due)).bind fun a5=>
    some (Clock.mk r1.now r1.field a0.1 a4.1 (a5.2.2.take a5.1),a0.2.1,0)
  else
   some (Clock.mk r1.now r1.field a0.1 r1.agenda r1.due,a0.2.1,0)
def c73:Con:=⟨Args.cons (Arg.agg Clock_c) (Args.one (Arg.int .i64)),Arg.tup (Args.cons (Arg.agg Clock_c) (Args.cons (Arg.agg (Cod.row kii)) (Args.one (Arg.int .i64)))),fun a=>clock_drop a.1 a.2,.frz,false⟩
theorem c73_ok:ConOK tab 73 c73:=ConOK.of tab_73 (cx:=(mkCx whileL [(109,c109),(74,c74),(74,c74p),(75,c75),(78,c78)] [(110,f110_0)] [] [])) rfl (CxOK.make ⟨c109_ok,c74_ok,c74p_ok,c75_ok,c78_ok,trivial⟩ ⟨f110_0_ok,trivial⟩ trivial) (fun a=>by kernel_rfl)
def clock_Retire (p0:Clock) (p1:Int):Option (Clock×Int):=
 (clock_Check p0).bind fun n0=>
 bif n0 !=0 then
  some (Clock.mk (0,0) (Field.mk []) (Certs.mk 0 []) (Agenda.mk (Slots.mk [] [] []) [] []) [],n0)
 else
  (clock_drop p0 p1).bind fun a1=>
  some (a1.1,a1.2.2)
def c36:Con:=⟨Args.cons (Arg.agg Clock_c) (Args.one (Arg.int .i64)),Arg.tup (Args.cons (Arg.agg Clock_c) (Args.one (Arg.int .i64))),fun a=>clock_Retire a.1 a.2,.frz,false⟩
theorem c36_ok:ConOK tab 36 c36:=Oc tab_36 rfl whileL [(14,c14),(73,c73)] ⟨c14_ok,c73_ok,trivial⟩ fun a=>by kernel_rfl
def slices_Equal_Point_l1 (s:((List (Int×Int×Int))×(List (Int×Int×Int))×Int×Int)):Option (Step ((List (Int×Int×Int))×(List (Int×Int×Int))×Int×Int) Bool):=
 bif decide (s.2.2.2<s.2.2.1) then
  (geti s.1 s.2.2.2).bind fun a0=>
  (geti s.2.1 s.2.2.2).bind fun a1=>
  bif !((a0.1==a1.1)&&((a0.2.1==a1.2.1)&&(a0.2.2==a1.2.2))) then
   some (.done false)
  else
   some (.next (s.1,s.2.1,s.2.2.1,wrapF .i64 (s.2.2.2+1)))
 else
  some (.done true)
def slices_Equal_Point (p0:List (Int×Int×Int)) (p1:List (Int×Int×Int)):Option Bool:=
 bif (Int.ofNat p0.length) !=(Int.ofNat p1.length) then
  some false
 else
  whileO slices_Equal_Point_l1 (p0,p1,Int.ofNat p0.length,0)
def c37:Con:=⟨Args.cons (Arg.sl kiii) (Args.one (Arg.sl kiii)),Arg.bool,fun a=>slices_Equal_Point a.1 a.2,.pure,false⟩
theorem c37_ok:ConOK tab 37 c37:=Oc tab_37 rfl whileL [] trivial fun a=>by kernel_rfl
def agenda_set_w6855 (a:((List Int)×(List Bool)×(List Int)×Int×Int×Int×Int×Int×Int×(List (Int×Int×Int×Int×Int))×(List Int))):Option ((List (Int×Int×Int×Int×Int))×(List Int)):=
 (geti a.2.2.2.2.2.2.2.2.2.1 a.2.2.2.1).bind fun _=>
 (geti a.2.2.2.2.2.2.2.2.2.2 a.2.2.2.2.2.2.2.1).bind fun _=>
 bif ((seti a.2.2.2.2.2.2.2.2.2.1 a.2.2.2.1 (a.2.2.2.2.1,a.2.2.2.2.2.1,a.2.2.2.2.2.2.1,a.2.2.2.2.2.2.2.1,a.2.2.2.2.2.2.2.2.1)).length)==a.2.2.2.2.2.2.2.2.2.1.length then
  bif ((seti a.2.2.2.2.2.2.2.2.2.2 a.2.2.2.2.2.2.2.1 a.2.2.2.1).length)==a.2.2.2.2.2.2.2.2.2.2.length then
   some (seti a.2.2.2.2.2.2.2.2.2.1 a.2.2.2.1 (a.2.2.2.2.1,a.2.2.2.2.2.1,a.2.2.2.2.2.2.1,a.2.2.2.2.2.2.2.1,a.2.2.2.2.2.2.2.2.1),seti a.2.2.2.2.2.2.2.2.2.2 a.2.2.2.2.2.2.2.1 a.2.2.2.1)
  else
   none
 else
  none
def f141_1:FpCon:=⟨[.l [.i .i64],.l [.b],.l [.i .i64],.i,.i,.i,.i,.i,.i,.l [.i .i64,.i .i64,.i .i64,.i .i64,.i .i64],.l [.i .i64]],[.agg [.sl [.i .i64] [],.sl [.b] [],.sl [.i .i64] [],.own 0 false,.own 1 false],.int .i64 0,.agg [.int .i64 0,.int .i64 0,.int .i64 0,.int .i64 0,.int .i64 0]],[.arr [.i .i64,.i .i64,.i .i64,.i .i64,.i .i64] [],.arr [.i .i64] []],[.l [.i .i64,.i .i64,.i .i64,.i .i64,.i .i64],.l [.i .i64]],.tup [],[.arr [.i .i64,.i .i64,.i .i64,.i .i64,.i .i64] [],.arr [.i .i64] []],fun a=>agenda_set_w6855 a⟩
theorem f141_1_ok:FpOK tab 141 f141_1:=FpOK.of tab_141 (wd:=false) (cx:=(mkCx whileL [] [] [] [])) (CxOK.make trivial trivial trivial) (fun a=>by kernel_rfl)
def agenda_settle_w6855_l1 (c0:((List Int)×(List Bool)×(List Int)×Int×Int×Int×Int×Int×Int×(List (Int×Int×Int×Int×Int))×(List Int))) (s:(Int×Int×(List (Int×Int×Int×Int×Int))×(List Int)×(List Int)×(List Bool)×(List Int)×Int×Int×Int×Int×Int)):Option (Step (Int×Int×(List (Int×Int×Int×Int×Int))×(List Int)×(List Int)×(List Bool)×(List Int)×Int×Int×Int×Int×Int) (Step (Int×(List (Int×Int×Int×Int×Int))×(List Int)×(List Int)×(List Bool)×(List Int)×Int×Int×Int×Int×Int) ((List (Int×Int×Int×Int×Int))×(List Int)))):=
 bif decide (s.2.1<(Int.ofNat s.2.2.1.length)) then
  bif decide ((wrapF .i64 (s.2.1+1))<(Int.ofNat s.2.2.1.length)) then
   (geti s.2.2.1 (wrapF .i64 (s.2.1+1))).bind fun a0=>
   (geti s.2.2.1 s.2.1).bind fun a1=>
   (agenda_compare a0 a1).bind fun n2=>
   bif decide (n2<0) then
    (geti s.2.2.1 (wrapF .i64 (s.2.1+1))).bind fun a3=>
    (agenda_compare a3 s.2.2.2.2.2.2.2).bind fun n4=>
    bif decide (0<=n4) then
     (agenda_set_w6855 (s.2.2.2.2.1,s.2.2.2.2.2.1,s.2.2.2.2.2.2.1,s.1,s.2.2.2.2.2.2.2.1,s.2.2.2.2.2.2.2.2.1,s.2.2.2.2.2.2.2.2.2.1,s.2.2.2.2.2.2.2.2.2.2.1,s.2.2.2.2.2.2.2.2.2.2.2,s.2.2.1,s.2.2.2.1)).bind fun a5=>
     bif a5.1.length==c0.2.2.2.2.2.2.2.2.2.1.length then
      bif a5.2.length==c0.2.2.2.2.2.2.2.2.2.2.length then
       some (.done (.done a5))
      else
       none
     else
      none
    else
     (geti s.2.2.1 (wrapF .i64 (s.2.1+1))).bind fun a6=>
     (agenda_set_w6855 (s.2.2.2.2.1,s.2.2.2.2.2.1,s.2.2.2.2.2.2.1,s.1,a6.1,a6.2.1,a6.2.2.1,a6.2.2.2.1,a6.2.2.2.2,s.2.2.1,s.2.2.2.1)).bind fun a7=>
     some (.next (wrapF .i64 (s.2.1+1),wrapF .i64 ((wrapF .i64 (2*(wrapF .i64 (s.2.1+1))))+1),a7.1,a7.2,s.2.2.2.2))
   else
    (geti s.2.2.1 s.2.1).bind fun a8=>
    (agenda_compare a8 s.2.2.2.2.2.2.2).bind fun n9=>
    bif decide (0<=n9) then
     (agenda_set_w6855 (s.2.2.2.2.1,s.2.2.2.2.2.1,s.2.2.2.2.2.2.1,s.1,s.2.2.2.2.2.2.2.1,s.2.2.2.2.2.2.2.2.1,s.2.2.2.2.2.2.2.2.2.1,s.2.2.2.2.2.2.2.2.2.2.1,s.2.2.2.2.2.2.2.2.2.2.2,s.2.2.1,s.2.2.2.1)).bind fun a10=>
     bif a10.1.length==c0.2.2.2.2.2.2.2.2.2.1.length then
      bif a10.2.length==c0.2.2.2.2.2.2.2.2.2.2.length then
       some (.done (.done a10))
      else
       none
     else
      none
    else
     (geti s.2.2.1 s.2.1).bind fun a11=>
     (agenda_set_w6855 (s.2.2.2.2.1,s.2.2.2.2.2.1,s.2.2.2.2.2.2.1,s.1,a11.1,a11.2.1,a11.2.2.1,a11.2.2.2.1,a11.2.2.2.2,s.2.2.1,s.2.2.2.1)).bind fun a12=>
     some (.next (s.2.1,wrapF .i64 ((wrapF .i64 (2*s.2.1))+1),a12.1,a12.2,s.2.2.2.2))
  else
   (geti s.2.2.1 s.2.1).bind fun a13=>
   (agenda_compare a13 s.2.2.2.2.2.2.2).bind fun n14=>
   bif decide (0<=n14) then
    (agenda_set_w6855 (s.2.2.2.2.1,s.2.2.2.2.2.1,s.2.2.2.2.2.2.1,s.1,s.2.2.2.2.2.2.2.1,s.2.2.2.2.2.2.2.2.1,s.2.2.2.2.2.2.2.2.2.1,s.2.2.2.2.2.2.2.2.2.2.1,s.2.2.2.2.2.2.2.2.2.2.2,s.2.2.1,s.2.2.2.1)).bind fun a15=>
    bif a15.1.length==c0.2.2.2.2.2.2.2.2.2.1.length then
     bif a15.2.length==c0.2.2.2.2.2.2.2.2.2.2.length then
      some (.done (.done a15))
     else
      none
    else
     none
   else
    (geti s.2.2.1 s.2.1).bind fun a16=>
    (agenda_set_w6855 (s.2.2.2.2.1,s.2.2.2.2.2.1,s.2.2.2.2.2.2.1,s.1,a16.1,a16.2.1,a16.2.2.1,a16.2.2.2.1,a16.2.2.2.2,s.2.2.1,s.2.2.2.1)).bind fun a17=>
    some (.next (s.2.1,wrapF .i64 ((wrapF .i64 (2*s.2.1))+1),a17.1,a17.2,s.2.2.2.2))
 else
  (agenda_set_w6855 (s.2.2.2.2.1,s.2.2.2.2.2.1,s.2.2.2.2.2.2.1,s.1,s.2.2.2.2.2.2.2.1,s.2.2.2.2.2.2.2.2.1,s.2.2.2.2.2.2.2.2.2.1,s.2.2.2.2.2.2.2.2.2.2.1,s.2.2.2.2.2.2.2.2.2.2.2,s.2.2.1,s.2.2.2.1)).bind fun a18=>
  bif a18.1.length==c0.2.2.2.2.2.2.2.2.2.1.length then
   bif a18.2.length==c0.2.2.2.2.2.2.2.2.2.2.length then
    some (.done (.done a18))
   else
    none
  else
   none
def agenda_settle_w6855_l2 (c0:((List Int)×(List Bool)×(List Int)×Int×Int×Int×Int×Int×Int×(List (Int×Int×Int×Int×Int))×(List Int))) (s:(Int×(List (Int×Int×Int×Int×Int))×(List Int)×(List Int)×(List Bool)×(List Int)×Int×Int×Int×Int×Int)):Option (Step (Int×(List (Int×Int×Int×Int×Int))×(List Int)×(List Int)×(List Bool)×(List Int)×Int×Int×Int×Int×Int) ((List (Int×Int×Int×Int×Int))×(List Int))):=
 bif decide (0<s.1) then
  (geti s.2.1 (wrapF .i64 (Int.tdiv (wrapF .i64 (s.1-1)) 2))).bind fun a0=>
  (agenda_compare s.2.2.2.2.2.2 a0).bind fun n1=>
  bif decide (n1<0) then
   (geti s.2.1 (wrapF .i64 (Int.tdiv (wrapF .i64 (s.1-1)) 2))).bind fun a2=>
   (agenda_set_w6855 (s.2.2.2.1,s.2.2.2.2.1,s.2.2.2.2.2.1,s.1,a2.1,a2.2.1,a2.2.2.1,a2.2.2.2.1,a2.2.2.2.2,s.2.1,s.2.2.1)).bind fun a3=>
   some (.next (wrapF .i64 (Int.tdiv (wrapF .i64 (s.1-1)) 2),a3.1,a3.2,s.2.2.2))
  else
   whileO (agenda_settle_w6855_l1 c0) (s.1,wrapF .i64 ((wrapF .i64 (2*s.1))+1),s.2)
 else
  whileO (agenda_settle_w6855_l1 c0) (s.1,wrapF .i64 ((wrapF .i64 (2*s.1))+1),s.2)
def agenda_settle_w6855 (a:((List Int)×(List Bool)×(List Int)×Int×Int×Int×Int×Int×Int×(List (Int×Int×Int×Int×Int))×(List Int))):Option ((List (Int×Int×Int×Int×Int))×(List Int)):=
 whileO (agenda_settle_w6855_l2 a) (a.2.2.2.1,a.2.2.2.2.2.2.2.2.2.1,a.2.2.2.2.2.2.2.2.2.2,a.1,a.2.1,a.2.2.1,a.2.2.2.2.1,a.2.2.2.2.2.1,a.2.2.2.2.2.2.1,a.2.2.2.2.2.2.2.1,a.2.2.2.2.2.2.2.2.1)
def f115_1:FpCon:=⟨[.l [.i .i64],.l [.b],.l [.i .i64],.i,.i,.i,.i,.i,.i,.l [.i .i64,.i .i64,.i .i64,.i .i64,.i .i64],.l [.i .i64]],[.agg [.sl [.i .i64] [],.sl [.b] [],.sl [.i .i64] [],.own 0 false,.own 1 false],.int .i64 0,.agg [.int .i64 0,.int .i64 0,.int .i64 0,.int .i64 0,.int .i64 0]],[.arr [.i .i64,.i .i64,.i .i64,.i .i64,.i .i64] [],.arr [.i .i64] []],[.l [.i .i64,.i .i64,.i .i64,.i .i64,.i .i64],.l [.i .i64]],.tup [],[.arr [.i .i64,.i .i64,.i .i64,.i .i64,.i .i64] [],.arr [.i .i64] []],fun a=>agenda_settle_w6855 a⟩
theorem f115_1_ok:FpOK tab 115 f115_1:=FpOK.of tab_115 (wd:=false) (cx:=(mkCx whileL [(68,c68)] [(141,f141_0),(141,f141_1)] [] [])) (CxOK.make ⟨c68_ok,trivial⟩ ⟨f141_0_ok,f141_1_ok,trivial⟩ trivial) (fun a=>by kernel_rfl)
def agenda_Rekey (p0:Agenda) (p1:Int×Int) (p2:Int×Int):Option (Agenda×Int):=
 (agenda_Check p0).bind fun n0=>
 (ratio_Check p2).bind fun n1=>
 bif (if n1>n0 then n1 else n0) !=0 then
  some (Agenda.mk (Slots.mk [] [] []) [] [],if n1>n0 then n1 else n0)
 else
  (agenda_place p0 p1).bind fun a2=>
  bif a2.2 !=0 then
   some (Agenda.mk (Slots.mk [] [] []) [] [],a2.2)
  else
   (cloneO p0.heap).bind fun l3=>
   (cloneO p0.where_).bind fun l4=>
   (geti l3 a2.1).bind fun a5=>
   (agenda_settle_w6855 (p0.slots.uses,p0.slots.used,p0.slots.free,a2.1,p2.1,p2.2,a5.2.2.1,a5.2.2.2.1,a5.2.2.2.2,l3,l4)).bind fun a6=>
   some (Agenda.mk p0.slots a6.1 a6.2,0)
def c76:Con:=⟨Args.cons (Arg.agg Agenda_c) (Args.cons (Arg.agg (Cod.row kii)) (Args.one (Arg.agg (Cod.row kii)))),Arg.tup (Args.cons (Arg.agg Agenda_c) (Args.one (Arg.int .i64))),fun a=>agenda_Rekey a.1 a.2.1 a.2.2,.frz,false⟩
theorem c76_ok:ConOK tab 76 c76:=ConOK.of tab_76 (cx:=(mkCx whileL [(31,c31),(29,c29),(113,c113),(45,Con.clone kiiiii),(46,Con.clone ki)] [(115,f115_0),(115,f115_1)] [(114,x114)] [])) rfl (CxOK.make ⟨c31_ok,c29_ok,c113_ok,prim_45,prim_46,trivial⟩ ⟨f115_0_ok,f115_1_ok,trivial⟩ ⟨tab_114,trivial⟩) (fun a=>by kernel_rfl)
def agenda_Push_1 (p0:Int×Int×Int×Int×Int) (p1:Int):Option Bool:=
 some (p0.2.2.1==p1)
def c117:Con:=⟨Args.cons (Arg.agg (Cod.row kiiiii)) (Args.one (Arg.ref (Cod.int .i64))),Arg.bool,fun a=>agenda_Push_1 a.1 a.2,.pure,false⟩
theorem c117_ok:ConOK tab 117 c117:=Oc tab_117 rfl whileL [] trivial fun a=>by kernel_rfl
def slices_IndexFunc_Event__agenda_Push_1_l1 (s:((List (Int×Int×Int×Int×Int))×Int×Int×Int)):Option (Step ((List (Int×Int×Int×Int×Int))×Int×Int×Int) Int):=
 bif decide (s.2.2.2<s.2.2.1) then
  (geti s.1 s.2.2.2).bind fun a0=>
  (agenda_Push_1 a0 s.2.1).bind fun b1=>
  bif b1 then
   some (.done s.2.2.2)
  else
   some (.next (s.1,s.2.1,s.2.2.1,wrapF .i64 (s.2.2.2+1)))
 else
  some (.done (-1))
def slices_IndexFunc_Event__agenda_Push_1 (p0:List (Int×Int×Int×Int×Int)) (p1:Int):Option Int:=
 whileO slices_IndexFunc_Event__agenda_Push_1_l1 (p0,p1,Int.ofNat p0.length,0)
def c142_117:Con:=⟨Args.cons (Arg.sl kiiiii) (Args.one (Arg.clo 117 (Args.one (Arg.ref (Cod.int .i64))))),Arg.int .i64,fun a=>slices_IndexFunc_Event__agenda_Push_1 a.1 a.2,.pure,false⟩
theorem c142_117_ok:ConOK tab 142 c142_117:=Oc tab_142 rfl whileL [(117,c117)] ⟨c117_ok,trivial⟩ fun a=>by kernel_rfl
def slices_ContainsFunc_Event__agenda_Push_1 (p0:List (Int×Int×Int×Int×Int)) (p1:Int):Option Bool:=
 (slices_IndexFunc_Event__agenda_Push_1 p0 p1).bind fun n0=>
 some (decide (0<=n0))
def c116_117:Con:=⟨Args.cons (Arg.sl kiiiii) (Args.one (Arg.clo 117 (Args.one (Arg.ref (Cod.int .i64))))),Arg.bool,fun a=>slices_ContainsFunc_Event__agenda_Push_1 a.1 a.2,.pure,false⟩
theorem c116_117_ok:ConOK tab 116 c116_117:=Oc tab_116 rfl whileL [(142,c142_117)] ⟨c142_117_ok,trivial⟩ fun a=>by kernel_rfl
def slot_stack_pop (p0:List Int):Option ((List Int)×Int):=
 (sliceO p0 0 (wrapF .i64 ((Int.ofNat p0.length) -1))).bind fun l0=>
 (cloneO l0).bind fun l1=>
 (geti p0 (wrapF .i64 ((Int.ofNat p0.length) -1))).bind fun n2=>
 some (l1,n2)
def c143:Con:=⟨Args.one (Arg.sl ki),Arg.tup (Args.cons (Arg.sl ki) (Args.one (Arg.int .i64))),fun a=>slot_stack_pop a,.frz,false⟩
theorem c143_ok:ConOK tab 143 c143:=Oc tab_143 rfl whileL [(158,Con.clone ki)] ⟨prim_158,trivial⟩ fun a=>by kernel_rfl
def slot_Take (p0:Slots):Option (Slots×(Int×Int)×Int):=
 (slot_Check p0).bind fun n0=>
 bif n0 !=0 then
  some (Slots.mk [] [] [],(0,0),n0)
 else
  bif (Int.ofNat p0.free.length)==0 then
   some (Slots.mk [] [] [],(0,0),18)
  else
   (slot_stack_pop p0.free).bind fun a1=>
   (geti p0.uses a1.2).bind fun n2=>
   bif n2==1000000 then
    some (Slots.mk [] [] [],(0,0),18)
   else
    (cloneO p0.uses).bind fun l3=>
    (cloneO p0.used).bind fun l4=>
    (geti l4 a1.2).bind fun _=>
    (geti l3 a1.2).bind fun n6=>
    (geti l3 a1.2).bind fun _=>
    (geti (seti l3 a1.2 (wrapF .i64 (n6+1))) a1.2).bind fun n8=>
    some (Slots.mk (seti l3 a1.2 (wrapF .i64 (n6+1))) (seti l4 a1.2 true) a1.1,(a1.2,n8),0)
def c118:Con:=⟨Args.one (Arg.agg Slots_c),Arg.tup (Args.cons (Arg.agg Slots_c) (Args.cons (Arg.agg (Cod.row kii)) (Args.one (Arg.int .i64)))),fun a=>slot_Take a,.frz,false⟩
theorem c118_ok:ConOK tab 118 c118:=ConOK.of tab_118 (cx:=(mkCx whileL [(67,c67),(143,c143),(46,Con.clone ki),(47,Con.clone kb)] [] [(144,x144)] [])) rfl (CxOK.make ⟨c67_ok,c143_ok,prim_46,prim_47,trivial⟩ trivial ⟨tab_144,trivial⟩) (fun a=>by kernel_rfl)
def agenda_Push (p0:Agenda) (p1:Int×Int) (p2:Int):Option (Agenda×(Int×Int)×Int):=
 (agenda_Check p0).bind fun n0=>
 (ratio_Check p1).bind fun n1=>
 bif (if n1>n0 then n1 else n0) !=0 then
  some (Agenda.mk (Slots.mk [] [] []) [] [],(0,0),if n1>n0 then n1 else n0)
 else
  bif decide (p2<0) then
   some (Agenda.mk (Slots.mk [] [] []) [] [],(0,0),2)
  else
   bif decide (1000000<p2) then
    some (Agenda.mk (Slots.mk [] [] []) [] [],(0,0),2)
   else
    (slices_ContainsFunc_Event__agenda_Push_1 p0.heap p2).bind fun b2=>
    bif b2 then
     some (Agenda.mk (Slots.mk [] [] []) [] [],(0,0),14)
    else
     (slot_Take p0.slots).bind fun a3=>
     bif a3.2.2 !=0 then
      some (Agenda.mk (Slots.mk [] [] []) [] [],(0,0),a3.2.2)
     else
      (cloneO p0.heap).bind fun l4=>
      (cloneO p0.where_).bind fun l5=>
      (appendO l4 [(p1.1,p1.2,p2,a3.2.1)]).bind fun l6=>
      (agenda_settle_w6855 (a3.1.uses,a3.1.used,a3.1.free,wrapF .i64 ((Int.ofNat l6.length) -1),p1.1,p1.2,p2,a3.2.1.1,a3.2.1.2,l6,l5)).bind fun a7=>
      some (Agenda.mk a3.1 a7.1 a7.2,a3.2.1,0)
def c77:Con:=⟨Args.cons (Arg.agg Agenda_c) (Args.cons (Arg.agg (Cod.row kii)) (Args.one (Arg.int .i64))),Arg.tup (Args.cons (Arg.agg Agenda_c) (Args.cons (Arg.agg (Cod.row kii)) (Args.one (Arg.int .i64)))),fun a=>agenda_Push a.1 a.2.1 a.2.2,.frz,false⟩
theorem c77_ok:ConOK tab 77 c77:=ConOK.of tab_77 (cx:=(mkCx whileL [(31,c31),(29,c29),(116,c116_117),(118,c118),(45,Con.clone kiiiii),(46,Con.clone ki)] [(115,f115_0),(115,f115_1)] [(114,x114)] [])) rfl (CxOK.make ⟨c31_ok,c29_ok,c116_117_ok,c118_ok,prim_45,prim_46,trivial⟩ ⟨f115_0_ok,f115_1_ok,trivial⟩ ⟨tab_114,trivial⟩) (fun a=>by kernel_rfl)
def clock_Alter_l1 (s:((List (Int×Int×Int))×Int×Int×Int×Int×(List (Int×Int×Int))×Int×(List (Int×Int×Int))×(List Int)×(List Bool)×(List Int)×(List (Int×Int×Int×Int×Int))×(List Int)×(List (Int×Int×Int))×(List (Int×Int×Int))×Int×Int×Int×Int×Int×Int×(List (Int×Int×Int))×(List Int)×(List Bool)×(List Int)×(List (Int×Int×Int×Int×Int))×(List Int)×(List (Int×Int×Int))×(List (Int×Int×Int)))):Option (Step ((List (Int×Int×Int))×Int×Int×Int×Int×(List (Int×Int×Int))×Int×(List (Int×Int×Int))×(List Int)×(List Bool)×(List Int)×(List (Int×Int×Int×Int×Int))×(List Int)×(List (Int×Int×Int))×(List (Int×Int×Int))×Int×Int×Int×Int×Int×Int×(List (Int×Int×Int))×(List Int)×(List Bool)×(List Int)×(List (Int×Int×Int×Int×Int))×(List Int)×(List (Int×Int×Int))×(List (Int×Int×Int))) (Step ((List (Int×Int×Int))×Int×Int×Int×Int×(List (Int×Int×Int))×Int×(List (Int×Int×Int))×(List Int)×(List Bool)×(List Int)×(List (Int×Int×Int×Int×Int))×(List Int)×(List (Int×Int×Int))×(List (Int×Int×Int))×Int×Int×Int) (Clock×Int))):=
 bif decide (s.2.2.1<s.2.1) then
  (geti s.1 s.2.2.1).bind fun a0=>
  (clock_when (Field.mk s.2.2.2.2.2.2.2.2.2.2.2.2.2.2.1) a0.2 (s.2.2.2.1,s.2.2.2.2.1)).bind fun a1=>
  (clock_place s.2.2.2.2.2.2.2.2.2.2.2.2.2.1 a0.1).bind fun a2=>
  bif a1.2.1 then
   bif a2.2 then
    (geti s.2.2.2.2.2.2.2.2.2.2.2.2.2.1 a2.1).bind fun a3=>
    (agenda_Rekey (Agenda.mk (Slots.mk s.2.2.2.2.2.2.2.2.2.2.2.2.2.2.2.2.2.2.2.2.2.2.1 s.2.2.2.2.2.2.2.2.2.2.2.2.2.2.2.2.2.2.2.2.2.2.2.1 s.2.2.2.2.2.2.2.2.2.2.2.2.2.2.2.2.2.2.2.2.2.2.2.2.1) s.2.2.2.2.2.2.2.2.2.2.2.2.2.2.2.2.2.2.2.2.2.2.2.2.2.1 s.2.2.2.2.2.2.2.2.2.2.2.2.2.2.2.2.2.2.2.2.2.2.2.2.2.2.1) a3.2 a1.1).bind fun a4=>
    (geti s.2.2.2.2.2.2.2.2.2.2.2.2.2.1 a2.1).bind fun a5=>
    (appendO s.2.2.2.2.2.2.2.2.2.2.2.2.2.2.2.2.2.2.2.2.2.2.2.2.2.2.2.2 [a5]).bind fun l6=>
    bif a4.2 !=0 then
     some (.done (.done (Clock.mk (0,0) (Field.mk []) (Certs.mk 0 []) (Agenda.mk (Slots.mk [] [] []) [] []) [],a4.2)))
    else
     some (.next (s.1,s.2.1,wrapF .i64 (s.2.2.1+1),s.2.2.2.1,s.2.2.2.2.1,s.2.2.2.2.2.1,s.2.2.2.2.2.2.1,s.2.2.2.2.2.2.2.1,s.2.2.2.2.2.2.2.2.1,s.2.2.2.2.2.2.2.2.2.1,s.2.2.2.2.2.2.2.2.2.2.1,s.2.2.2.2.2.2.2.2.2.2.2.1,s.2.2.2.2.2.2.2.2.2.2.2.2.1,s.2.2.2.2.2.2.2.2.2.2.2.2.2.1,s.2.2.2.2.2.2.2.2.2.2.2.2.2.2.1,s.2.2.2.2.2.2.2.2.2.2.2.2.2.2.2.1,s.2.2.2.2.2.2.2.2.2.2.2.2.2.2.2.2.1,s.2.2.2.2.2.2.2.2.2.2.2.2.2.2.2.2.2.1,s.2.2.2.2.2.2.2.2.2.2.2.2.2.2.2.2.2.2.1,s.2.2.2.2.2.2.2.2.2.2.2.2.2.2.2.2.2.2.2.1,s.2.2.2.2.2.2.2.2.2.2.2.2.2.2.2.2.2.2.2.2.1,s.2.2.2.2.2.2.2.2.2.2.2.2.2.2.2.2.2.2.2.2.2.1,a4.1.slots.uses,a4.1.slots.used,a4.1.slots.free,a4.1.heap,a4.1.where_,s.2.2.2.2.2.2.2.2.2.2.2.2.2.2.2.2.2.2.2.2.2.2.2.2.2.2.2.1,l6))
   else
    bif a1.2.1 then
     (agenda_Push (Agenda.mk (Slots.mk s.2.2.2.2.2.2.2.2.2.2.2.2.2.2.2.2.2.2.2.2.2.2.1 s.2.2.2.2.2.2.2.2.2.2.2.2.2.2.2.2.2.2.2.2.2.2.2.1 s.2.2.2.2.2.2.2.2.2.2.2.2.2.2.2.2.2.2.2.2.2.2.2.2.1) s.2.2.2.2.2.2.2.2.2.2.2.2.2.2.2.2.2.2.2.2.2.2.2.2.2.1 s.2.2.2.2.2.2.2.2.2.2.2.2.2.2.2.2.2.2.2.2.2.2.2.2.2.2.1) a1.1 a0.1).bind fun a7=>
     (appendO s.2.2.2.2.2.2.2.2.2.2.2.2.2.2.2.2.2.2.2.2.2.2.2.2.2.2.2.2 [(a0.1,a7.2.1)]).bind fun l8=>
     bif a7.2.2 !=0 then
      some (.done (.done (Clock.mk (0,0) (Field.mk []) (Certs.mk 0 []) (Agenda.mk (Slots.mk [] [] []) [] []) [],a7.2.2)))
     else
      some (.next (s.1,s.2.1,wrapF .i64 (s.2.2.1+1),s.2.2.2.1,s.2.2.2.2.1,s.2.2.2.2.2.1,s.2.2.2.2.2.2.1,s.2.2.2.2.2.2.2.1,s.2.2.2.2.2.2.2.2.1,s.2.2.2.2.2.2.2.2.2.1,s.2.2.2.2.2.2.2.2.2.2.1,s.2.2.2.2.2.2.2.2.2.2.2.1,s.2.2.2.2.2.2.2.2.2.2.2.2.1,s.2.2.2.2.2.2.2.2.2.2.2.2.2.1,s.2.2.2.2.2.2.2.2.2.2.2.2.2.2.1,s.2.2.2.2.2.2.2.2.2.2.2.2.2.2.2.1,s.2.2.2.2.2.2.2.2.2.2.2.2.2.2.2.2.1,s.2.2.2.2.2.2.2.2.2.2.2.2.2.2.2.2.2.1,s.2.2.2.2.2.2.2.2.2.2.2.2.2.2.2.2.2.2.1,s.2.2.2.2.2.2.2.2.2.2.2.2.2.2.2.2.2.2.2.1,s.2.2.2.2.2.2.2.2.2.2.2.2.2.2.2.2.2.2.2.2.1,s.2.2.2.2.2.2.2.2.2.2.2.2.2.2.2.2.2.2.2.2.2.1,a7.1.slots.uses,a7.1.slots.used,a7.1.slots.free,a7.1.heap,a7.1.where_,s.2.2.2.2.2.2.2.2.2.2.2.2.2.2.2.2.2.2.2.2.2.2.2.2.2.2.2.1,l8))
    else
     bif a2.2 then
      (geti s.2.2.2.2.2.2.2.2.2.2.2.2.2.1 a2.1).bind fun a9=>
      (agenda_Remove (Agenda.mk (Slots.mk s.2.2.2.2.2.2.2.2.2.2.2.2.2.2.2.2.2.2.2.2.2.2.1 s.2.2.2.2.2.2.2.2.2.2.2.2.2.2.2.2.2.2.2.2.2.2.2.1 s.2.2.2.2.2.2.2.2.2.2.2.2.2.2.2.2.2.2.2.2.2.2.2.2.1) s.2.2.2.2.2.2.2.2.2.2.2.2.2.2.2.2.2.2.2.2.2.2.2.2.2.1 s.2.2.2.2.2.2.2.2.2.2.2.2.2.2.2.2.2.2.2.2.2.2.2.2.2.2.1) a9.2).bind fun a10=>
      bif a10.2.2 !=0 then
       some (.done (.done (Clock.mk (0,0) (Field.mk []) (Certs.mk 0 []) (Agenda.mk (Slots.mk [] [] []) [] []) [],a10.2.2)))
      else
       some (.next (s.1,s.2.1,wrapF .i64 (s.2.2.1+1),s.2.2.2.1,s.2.2.2.2.1,s.2.2.2.2.2.1,s.2.2.2.2.2.2.1,s.2.2.2.2.2.2.2.1,s.2.2.2.2.2.2.2.2.1,s.2.2.2.2.2.2.2.2.2.1,s.2.2.2.2.2.2.2.2.2.2.1,s.2.2.2.2.2.2.2.2.2.2.2.1,s.2.2.2.2.2.2.2.2.2.2.2.2.1,s.2.2.2.2.2.2.2.2.2.2.2.2.2.1,s.2.2.2.2.2.2.2.2.2.2.2.2.2.2.1,s.2.2.2.2.2.2.2.2.2.2.2.2.2.2.2.1,s.2.2.2.2.2.2.2.2.2.2.2.2.2.2.2.2.1,s.2.2.2.2.2.2.2.2.2.2.2.2.2.2.2.2.2.1,s.2.2.2.2.2.2.2.2.2.2.2.2.2.2.2.2.2.2.1,s.2.2.2.2.2.2.2.2.2.2.2.2.2.2.2.2.2.2.2.1,s.2.2.2.2.2.2.2.2.2.2.2.2.2.2.2.2.2.2.2.2.1,s.2.2.2.2.2.2.2.2.2.2.2.2.2.2.2.2.2.2.2.2.2.1,a10.1.slots.uses,a10.1.slots.used,a10.1.slots.free,a10.1.heap,a10.1.where_,s.2.2.2.2.2.2.2.2.2.2.2.2.2.2.2.2.2.2.2.2.2.2.2.2.2.2.2))
     else
      bif a1.2.2 !=0 then
       some (.done (.done (Clock.mk (0,0) (Field.mk []) (Certs.mk 0 []) (Agenda.mk (Slots.mk [] [] []) [] []) [],a1.2.2)))
      else
       some (.next (s.1,s.2.1,wrapF .i64 (s.2.2.1+1),s.2.2.2))
  else
   bif a1.2.1 then
    (agenda_Push (Agenda.mk (Slots.mk s.2.2.2.2.2.2.2.2.2.2.2.2.2.2.2.2.2.2.2.2.2.2.1 s.2.2.2.2.2.2.2.2.2.2.2.2.2.2.2.2.2.2.2.2.2.2.2.1 s.2.2.2.2.2.2.2.2.2.2.2.2.2.2.2.2.2.2.2.2.2.2.2.2.1) s.2.2.2.2.2.2.2.2.2.2.2.2.2.2.2.2.2.2.2.2.2.2.2.2.2.1 s.2.2.2.2.2.2.2.2.2.2.2.2.2.2.2.2.2.2.2.2.2.2.2.2.2.2.1) a1.1 a0.1).bind fun a11=>
    (appendO s.2.2.2.2.2.2.2.2.2.2.2.2.2.2.2.2.2.2.2.2.2.2.2.2.2.2.2.2 [(a0.1,a11.2.1)]).bind fun l12=>
    bif a11.2.2 !=0 then
     some (.done (.done (Clock.mk (0,0) (Field.mk []) (Certs.mk 0 []) (Agenda.mk (Slots.mk [] [] []) [] []) [],a11.2.2)))
    else
     some (.next (s.1,s.2.1,wrapF .i64 (s.2.2.1+1),s.2.2.2.1,s.2.2.2.2.1,s.2.2.2.2.2.1,s.2.2.2.2.2.2.1,s.2.2.2.2.2.2.2.1,s.2.2.2.2.2.2.2.2.1,s.2.2.2.2.2.2.2.2.2.1,s.2.2.2.2.2.2.2.2.2.2.1,s.2.2.2.2.2.2.2.2.2.2.2.1,s.2.2.2.2.2.2.2.2.2.2.2.2.1,s.2.2.2.2.2.2.2.2.2.2.2.2.2.1,s.2.2.2.2.2.2.2.2.2.2.2.2.2.2.1,s.2.2.2.2.2.2.2.2.2.2.2.2.2.2.2.1,s.2.2.2.2.2.2.2.2.2.2.2.2.2.2.2.2.1,s.2.2.2.2.2.2.2.2.2.2.2.2.2.2.2.2.2.1,s.2.2.2.2.2.2.2.2.2.2.2.2.2.2.2.2.2.2.1,s.2.2.2.2.2.2.2.2.2.2.2.2.2.2.2.2.2.2.2.1,s.2.2.2.2.2.2.2.2.2.2.2.2.2.2.2.2.2.2.2.2.1,s.2.2.2.2.2.2.2.2.2.2.2.2.2.2.2.2.2.2.2.2.2.1,a11.1.slots.uses,a11.1.slots.used,a11.1.slots.free,a11.1.heap,a11.1.where_,s.2.2.2.2.2.2.2.2.2.2.2.2.2.2.2.2.2.2.2.2.2.2.2.2.2.2.2.1,l12))
   else
    bif a2.2 then
     (geti s.2.2.2.2.2.2.2.2.2.2.2.2.2.1 a2.1).bind fun a13=>
     (agenda_Remove (Agenda.mk (Slots.mk s.2.2.2.2.2.2.2.2.2.2.2.2.2.2.2.2.2.2.2.2.2.2.1 s.2.2.2.2.2.2.2.2.2.2.2.2.2.2.2.2.2.2.2.2.2.2.2.1 s.2.2.2.2.2.2.2.2.2.2.2.2.2.2.2.2.2.2.2.2.2.2.2.2.1) s.2.2.2.2.2.2.2.2.2.2.2.2.2.2.2.2.2.2.2.2.2.2.2.2.2.1 s.2.2.2.2.2.2.2.2.2.2.2.2.2.2.2.2.2.2.2.2.2.2.2.2.2.2.1) a13.2).bind fun a14=>
     bif a14.2.2 !=0 then
      some (.done (.done (Clock.mk (0,0) (Field.mk []) (Certs.mk 0 []) (Agenda.mk (Slots.mk [] [] []) [] []) [],a14.2.2)))
     else
      some (.next (s.1,s.2.1,wrapF .i64 (s.2.2.1+1),s.2.2.2.1,s.2.2.2.2.1,s.2.2.2.2.2.1,s.2.2.2.2.2.2.1,s.2.2.2.2.2.2.2.1,s.2.2.2.2.2.2.2.2.1,s.2.2.2.2.2.2.2.2.2.1,s.2.2.2.2.2.2.2.2.2.2.1,s.2.2.2.2.2.2.2.2.2.2.2.1,s.2.2.2.2.2.2.2.2.2.2.2.2.1,s.2.2.2.2.2.2.2.2.2.2.2.2.2.1,s.2.2.2.2.2.2.2.2.2.2.2.2.2.2.1,s.2.2.2.2.2.2.2.2.2.2.2.2.2.2.2.1,s.2.2.2.2.2.2.2.2.2.2.2.2.2.2.2.2.1,s.2.2.2.2.2.2.2.2.2.2.2.2.2.2.2.2.2.1,s.2.2.2.2.2.2.2.2.2.2.2.2.2.2.2.2.2.2.1,s.2.2.2.2.2.2.2.2.2.2.2.2.2.2.2.2.2.2.2.1,s.2.2.2.2.2.2.2.2.2.2.2.2.2.2.2.2.2.2.2.2.1,s.2.2.2.2.2.2.2.2.2.2.2.2.2.2.2.2.2.2.2.2.2.1,a14.1.slots.uses,a14.1.slots.used,a14.1.slots.free,a14.1.heap,a14.1.where_,s.2.2.2.2.2.2.2.2.2.2.2.2.2.2.2.2.2.2.2.2.2.2.2.2.2.2.2))
    else
     bif a1.2.2 !=0 then
      some (.done (.done (Clock.mk (0,0) (Field.mk []) (Certs.mk 0 []) (Agenda.mk (Slots.mk [] [] []) [] []) [],a1.2.2)))
     else
      some (.next (s.1,s.2.1,wrapF .i64 (s.2.2.1+1),s.2.2.2))
 else
  some (.done (.done (Clock.mk (s.2.2.2.2.2.2.2.2.2.2.2.2.2.2.2.2.2.2.1,s.2.2.2.2.2.2.2.2.2.2.2.2.2.2.2.2.2.2.2.1) (Field.mk s.2.2.2.2.2.2.2.2.2.2.2.2.2.2.2.2.2.2.2.2.2.2.2.2.2.2.2.1) (Certs.mk s.2.2.2.2.2.2.2.2.2.2.2.2.2.2.2.2.2.2.2.2.1 s.2.2.2.2.2.2.2.2.2.2.2.2.2.2.2.2.2.2.2.2.2.1) (Agenda.mk (Slots.mk s.2.2.2.2.2.2.2.2.2.2.2.2.2.2.2.2.2.2.2.2.2.2.1 s.2.2.2.2.2.2.2.2.2.2.2.2.2.2.2.2.2.2.2.2.2.2.2.1 s.2.2.2.2.2.2.2.2.2.2.2.2.2.2.2.2.2.2.2.2.2.2.2.2.1) s.2.2.2.2.2.2.2.2.2.2.2.2.2.2.2.2.2.2.2.2.2.2.2.2.2.1 s.2.2.2.2.2.2.2.2.2.2.2.2.2.2.2.2.2.2.2.2.2.2.2.2.2.2.1) s.2.2.2.2.2.2.2.2.2.2.2.2.2.2.2.2.2.2.2.2.2.2.2.2.2.2.2.2,0)))
def clock_Alter_l2 (s:((List (Int×Int×Int))×Int×Int×Int×Int×(List (Int×Int×Int))×Int×(List (Int×Int×Int))×(List Int)×(List Bool)×(List Int)×(List (Int×Int×Int×Int×Int))×(List Int)×(List (Int×Int×Int))×(List (Int×Int×Int))×Int×Int×Int)):Option (Step ((List (Int×Int×Int))×Int×Int×Int×Int×(List (Int×Int×Int))×Int×(List (Int×Int×Int))×(List Int)×(List Bool)×(List Int)×(List (Int×Int×Int×Int×Int))×(List Int)×(List (Int×Int×Int))×(List (Int×Int×Int))×Int×Int×Int) (Clock×Int)):=
 bif decide (s.2.2.1<s.2.1) then
  (geti s.1 s.2.2.1).bind fun a0=>
  (clock_point (Field.mk s.2.2.2.2.2.2.2.2.2.2.2.2.2.2.1) a0.2.1).bind fun a1=>
  bif decide (a1.1<0) then
   some (.done (Clock.mk (0,0) (Field.mk []) (Certs.mk 0 []) (Agenda.mk (Slots.mk [] [] []) [] []) [],6))
  else
   (clock_point (Field.mk s.2.2.2.2.2.2.2.2.2.2.2.2.2.2.1) a0.2.2).bind fun a2=>
   bif decide (a2.1<0) then
    some (.done (Clock.mk (0,0) (Field.mk []) (Certs.mk 0 []) (Agenda.mk (Slots.mk [] [] []) [] []) [],6))
   else
    some (.next (s.1,s.2.1,wrapF .i64 (s.2.2.1+1),s.2.2.2))
 else
  (clock_twin (Clock.mk (s.2.2.2.1,s.2.2.2.2.1) (Field.mk s.2.2.2.2.2.1) (Certs.mk s.2.2.2.2.2.2.1 s.2.2.2.2.2.2.2.1) (Agenda.mk (Slots.mk s.2.2.2.2.2.2.2.2.1 s.2.2.2.2.2.2.2.2.2.1 s.2.2.2.2.2.2.2.2.2.2.1) s.2.2.2.2.2.2.2.2.2.2.2.1 s.2.2.2.2.2.2.2.2.2.2.2.2.1) s.2.2.2.2.2.2.2.2.2.2.2.2.2.1)).bind fun r3=>
  (cloneO s.2.2.2.2.2.2.2.2.2.2.2.2.2.2.1).bind fun l4=>
  whileO clock_Alter_l1 (s.2.2.2.2.2.2.2.1,Int.ofNat s.2.2.2.2.2.2.2.1.length,0,s.2.2.2.1,s.2.2.2.2.1,s.2.2.2.2.2.1,s.2.2.2.2.2.2.1,s.2.2.2.2.2.2.2.1,s.2.2.2.2.2.2.2.2.1,s.2.2.2.2.2.2.2.2.2.1,s.2.2.2.2.2.2.2.2.2.2.1,s.2.2.2.2.2.2.2.2.2.2.2.1,s.2.2.2.2.2.2.2.2.2.2.2.2.1,s.2.2.2.2.2.2.2.2.2.2.2.2.2.1,s.2.2.2.2.2.2.2.2.2.2.2.2.2.2.1,s.2.2.2.2.2.2.2.2.2.2.2.2.2.2.2.1,s.2.2.2.2.2.2.2.2.2.2.2.2.2.2.2.2.1,s.2.2.2.2.2.2.2.2.2.2.2.2.2.2.2.2.2,r3.now.1,r3.now.2,r3.certs.next_,r3.certs.list,r3.agenda.slots.uses,r3.agenda.slots.used,r3.agenda.slots.free,r3.agenda.heap,r3.agenda.where_,l4,[])
def clock_Alter (p0:Clock) (p1:Field):Option (Clock×Int):=
 (clock_Check p0).bind fun n0=>
 bif n0 !=0 then
  some (Clock.mk (0,0) (Field.mk []) (Certs.mk 0 []) (Agenda.mk (Slots.mk [] [] []) [] []) [],n0)
 else
  (field_Check p1).bind fun n1=>
  bif n1 !=0 then
   some (Clock.mk (0,0) (Field.mk []) (Certs.mk 0 []) (Agenda.mk (Slots.mk [] [] []) [] []) [],n1)
  else
   whileO clock_Alter_l2 (p0.certs.list,Int.ofNat p0.certs.list.length,0,p0.now.1,p0.now.2,p0.field.points,p0.certs.next_,p0.certs.list,p0.agenda.slots.uses,p0.agenda.slots.used,p0.agenda.slots.free,p0.agenda.heap,p0.agenda.where_,p0.due,p1.points,0,0,0)
def c38:Con:=⟨Args.cons (Arg.agg Clock_c) (Args.one (Arg.agg Field_c)),Arg.tup (Args.cons (Arg.agg Clock_c) (Args.one (Arg.int .i64))),fun a=>clock_Alter a.1 a.2,.frz,false⟩
theorem c38_ok:ConOK tab 38 c38:=Oc tab_38 rfl whileL [(14,c14),(15,c15),(70,c70),(74,c74),(74,c74p),(42,Con.clone kiii),(32,c32),(75,c75),(76,c76),(77,c77),(78,c78)] ⟨c14_ok,c15_ok,c70_ok,c74_ok,c74p_ok,prim_42,c32_ok,c75_ok,c76_ok,c77_ok,c78_ok,trivial⟩ fun a=>by kernel_rfl
def kheap_renew_1 (p0:Int×Int×Int) (p1:Int×Int):Option Bool:=
 some ((p0.2.1==p1.1)&&(p0.2.2==p1.2))
def c40:Con:=⟨Args.cons (Arg.agg (Cod.row kiii)) (Args.one (Arg.ref (Cod.row kii))),Arg.bool,fun a=>kheap_renew_1 a.1 a.2,.pure,false⟩
theorem c40_ok:ConOK tab 40 c40:=Oc tab_40 rfl whileL [] trivial fun a=>by kernel_rfl
def slices_IndexFunc_Held__kheap_renew_1_l1 (s:((List (Int×Int×Int))×Int×Int×Int×Int)):Option (Step ((List (Int×Int×Int))×Int×Int×Int×Int) Int):=
 bif decide (s.2.2.2.2<s.2.2.2.1) then
  (geti s.1 s.2.2.2.2).bind fun a0=>
  (kheap_renew_1 a0 (s.2.1,s.2.2.1)).bind fun b1=>
  bif b1 then
   some (.done s.2.2.2.2)
  else
   some (.next (s.1,s.2.1,s.2.2.1,s.2.2.2.1,wrapF .i64 (s.2.2.2.2+1)))
 else
  some (.done (-1))
def slices_IndexFunc_Held__kheap_renew_1 (p0:List (Int×Int×Int)) (p1:(Int×Int)):Option Int:=
 whileO slices_IndexFunc_Held__kheap_renew_1_l1 (p0,p1.1,p1.2,Int.ofNat p0.length,0)
def c79_40:Con:=⟨Args.cons (Arg.sl kiii) (Args.one (Arg.clo 40 (Args.one (Arg.ref (Cod.row kii))))),Arg.int .i64,fun a=>slices_IndexFunc_Held__kheap_renew_1 a.1 a.2,.pure,false⟩
theorem c79_40_ok:ConOK tab 79 c79_40:=Oc tab_79 rfl whileL [(40,c40)] ⟨c40_ok,trivial⟩ fun a=>by kernel_rfl
def slices_ContainsFunc_Held__kheap_renew_1 (p0:List (Int×Int×Int)) (p1:(Int×Int)):Option Bool:=
 (slices_IndexFunc_Held__kheap_renew_1 p0 p1).bind fun n0=>
 some (decide (0<=n0))
def c39_40:Con:=⟨Args.cons (Arg.sl kiii) (Args.one (Arg.clo 40 (Args.one (Arg.ref (Cod.row kii))))),Arg.bool,fun a=>slices_ContainsFunc_Held__kheap_renew_1 a.1 a.2,.pure,false⟩
theorem c39_40_ok:ConOK tab 39 c39_40:=Oc tab_39 rfl whileL [(79,c79_40)] ⟨c79_40_ok,trivial⟩ fun a=>by kernel_rfl
def clock_Certify_1 (p0:Int):Option (Clock×Int×Int):=
 some (Clock.mk (0,0) (Field.mk []) (Certs.mk 0 []) (Agenda.mk (Slots.mk [] [] []) [] []) [],0,p0)
def c80:Con:=⟨Args.one (Arg.int .i64),Arg.tup (Args.cons (Arg.agg Clock_c) (Args.cons (Arg.int .i64) (Args.one (Arg.int .i64)))),fun a=>clock_Certify_1 a,.frz,false⟩
theorem c80_ok:ConOK tab 80 c80:=Oc tab_80 rfl whileL [] trivial fun a=>by kernel_rfl
def cert_Add_1 (p0:Int×Int×Int) (p1:Int×Int):Option Bool:=
 some ((p0.2.1==p1.1)&&(p0.2.2==p1.2))
def c120:Con:=⟨Args.cons (Arg.agg (Cod.row kiii)) (Args.one (Arg.ref (Cod.row kii))),Arg.bool,fun a=>cert_Add_1 a.1 a.2,.pure,false⟩
theorem c120_ok:ConOK tab 120 c120:=Oc tab_120 rfl whileL [] trivial fun a=>by kernel_rfl
def slices_IndexFunc_Held__cert_Add_1_l1 (s:((List (Int×Int×Int))×Int×Int×Int×Int)):Option (Step ((List (Int×Int×Int))×Int×Int×Int×Int) Int):=
 bif decide (s.2.2.2.2<s.2.2.2.1) then
  (geti s.1 s.2.2.2.2).bind fun a0=>
  (cert_Add_1 a0 (s.2.1,s.2.2.1)).bind fun b1=>
  bif b1 then
   some (.done s.2.2.2.2)
  else
   some (.next (s.1,s.2.1,s.2.2.1,s.2.2.2.1,wrapF .i64 (s.2.2.2.2+1)))
 else
  some (.done (-1))
def slices_IndexFunc_Held__cert_Add_1 (p0:List (Int×Int×Int)) (p1:(Int×Int)):Option Int:=
 whileO slices_IndexFunc_Held__cert_Add_1_l1 (p0,p1.1,p1.2,Int.ofNat p0.length,0)
def c79_120:Con:=⟨Args.cons (Arg.sl kiii) (Args.one (Arg.clo 120 (Args.one (Arg.ref (Cod.row kii))))),Arg.int .i64,fun a=>slices_IndexFunc_Held__cert_Add_1 a.1 a.2,.pure,false⟩
theorem c79_120_ok:ConOK tab 79 c79_120:=Oc tab_79 rfl whileL [(120,c120)] ⟨c120_ok,trivial⟩ fun a=>by kernel_rfl
def slices_ContainsFunc_Held__cert_Add_1 (p0:List (Int×Int×Int)) (p1:(Int×Int)):Option Bool:=
 (slices_IndexFunc_Held__cert_Add_1 p0 p1).bind fun n0=>
 some (decide (0<=n0))
def c39_120:Con:=⟨Args.cons (Arg.sl kiii) (Args.one (Arg.clo 120 (Args.one (Arg.ref (Cod.row kii))))),Arg.bool,fun a=>slices_ContainsFunc_Held__cert_Add_1 a.1 a.2,.pure,false⟩
theorem c39_120_ok:ConOK tab 39 c39_120:=Oc tab_39 rfl whileL [(79,c79_120)] ⟨c79_120_ok,trivial⟩ fun a=>by kernel_rfl
def cert_Add (p0:Certs) (p1:Int×Int):Option (Certs×Int×Int):=
 (cert_Check p0).bind fun n0=>
 bif n0 !=0 then
  some (Certs.mk 0 [],0,n0)
 else
  (cert_valid p1).bind fun b1=>
  bif !b1 then
   some (Certs.mk 0 [],0,8)
  else
   (slices_ContainsFunc_Held__cert_Add_1 p0.list p1).bind fun b2=>
   bif b2 then
    some (Certs.mk 0 [],0,14)
   else
    bif (Int.ofNat p0.list.length)==200 then
     some (Certs.mk 0 [],0,18)
    else
     bif p0.next_==1000000 then
      some (Certs.mk 0 [],0,18)
     else
      (cloneO p0.list).bind fun l3=>
      (appendO l3 [(p0.next_,p1)]).bind fun l4=>
      some (Certs.mk (wrapF .i64 (p0.next_+1)) l4,p0.next_,0)
def c81:Con:=⟨Args.cons (Arg.agg Certs_c) (Args.one (Arg.agg (Cod.row kii))),Arg.tup (Args.cons (Arg.agg Certs_c) (Args.cons (Arg.int .i64) (Args.one (Arg.int .i64)))),fun a=>cert_Add a.1 a.2,.frz,false⟩
theorem c81_ok:ConOK tab 81 c81:=Oc tab_81 rfl whileL [(30,c30),(66,c66),(39,c39_120),(43,Con.clone kiii)] ⟨c30_ok,c66_ok,c39_120_ok,prim_43,trivial⟩ fun a=>by kernel_rfl
def clock_Certify (p0:Clock) (p1:Int×Int):Option (Clock×Int×Int):=
 (clock_Check p0).bind fun n0=>
 bif n0 !=0 then
  (clock_Certify_1 n0).bind fun a1=>
  some a1
 else
  (cert_Add p0.certs p1).bind fun a2=>
  bif a2.2.2==8 then
   (clock_Certify_1 a2.2.2).bind fun a3=>
   some a3
  else
   (clock_point p0.field p1.1).bind fun a4=>
   bif decide (a4.1<0) then
    (clock_Certify_1 6).bind fun a5=>
    some a5
   else
    (clock_point p0.field p1.2).bind fun a6=>
    bif decide (a6.1<0) then
     (clock_Certify_1 6).bind fun a7=>
     some a7
    else
     bif a2.2.2 !=0 then
      (clock_Certify_1 a2.2.2).bind fun a8=>
      some a8
     else
      (clock_twin p0).bind fun r9=>
      (clock_when p0.field p1 p0.now).bind fun a10=>
      bif a10.2.2 !=0 then
       (clock_Certify_1 a10.2.2).bind fun a11=>
       some a11
      else
       bif a10.2.1 then
        (agenda_Push p0.agenda a10.1 a2.2.1).bind fun a12=>
        bif a12.2.2 !=0 then
         (clock_Certify_1 a12.2.2).bind fun a13=>
         some a13
        else
         (appendO r9.due [(a2.2.1,a12.2.1)]).bind fun l14=>
         some (Clock.mk r9.now r9.field a2.1 a12.1 l14,a2.2.1,0)
       else
        some (Clock.mk r9.now r9.field a2.1 r9.agenda r9.due,a2.2.1,0)
def c41:Con:=⟨Args.cons (Arg.agg Clock_c) (Args.one (Arg.agg (Cod.row kii))),Arg.tup (Args.cons (Arg.agg Clock_c) (Args.cons (Arg.int .i64) (Args.one (Arg.int .i64)))),fun a=>clock_Certify a.1 a.2,.frz,false⟩
theorem c41_ok:ConOK tab 41 c41:=Oc tab_41 rfl whileL [(14,c14),(80,c80),(81,c81),(70,c70),(74,c74),(74,c74p),(32,c32),(77,c77)] ⟨c14_ok,c80_ok,c81_ok,c70_ok,c74_ok,c74p_ok,c32_ok,c77_ok,trivial⟩ fun a=>by kernel_rfl
def kheap_renew_l1 (s:((List (Int×Int))×Int×Int×Int×Int×(List (Int×Int×Int))×Int×(List (Int×Int×Int))×(List Int)×(List Bool)×(List Int)×(List (Int×Int×Int×Int×Int))×(List Int)×(List (Int×Int×Int))×Int×Int×Int)):Option (Step ((List (Int×Int))×Int×Int×Int×Int×(List (Int×Int×Int))×Int×(List (Int×Int×Int))×(List Int)×(List Bool)×(List Int)×(List (Int×Int×Int×Int×Int))×(List Int)×(List (Int×Int×Int))×Int×Int×Int) (Step ((List (Int×Int))×(List (Int×Int×Int))×Int×Int×Int×Int×(List (Int×Int×Int))×Int×(List (Int×Int×Int))×(List Int)×(List Bool)×(List Int)×(List (Int×Int×Int×Int×Int))×(List Int)×(List (Int×Int×Int))×(List (Int×Int×Int))×Int×Int×Int) (Clock×Int))):=
 bif decide (s.2.2.1<s.2.1) then
  (geti s.1 s.2.2.1).bind fun a0=>
  (slices_ContainsFunc_Held__kheap_renew_1 s.2.2.2.2.2.2.2.1 a0).bind fun b1=>
  bif b1 then
   some (.next (s.1,s.2.1,wrapF .i64 (s.2.2.1+1),s.2.2.2))
  else
   (clock_Certify (Clock.mk (s.2.2.2.1,s.2.2.2.2.1) (Field.mk s.2.2.2.2.2.1) (Certs.mk s.2.2.2.2.2.2.1 s.2.2.2.2.2.2.2.1) (Agenda.mk (Slots.mk s.2.2.2.2.2.2.2.2.1 s.2.2.2.2.2.2.2.2.2.1 s.2.2.2.2.2.2.2.2.2.2.1) s.2.2.2.2.2.2.2.2.2.2.2.1 s.2.2.2.2.2.2.2.2.2.2.2.2.1) s.2.2.2.2.2.2.2.2.2.2.2.2.2.1) a0).bind fun a2=>
   bif a2.2.2 !=0 then
    some (.done (.done (Clock.mk (0,0) (Field.mk []) (Certs.mk 0 []) (Agenda.mk (Slots.mk [] [] []) [] []) [],a2.2.2)))
   else
    some (.next (s.1,s.2.1,wrapF .i64 (s.2.2.1+1),a2.1.now.1,a2.1.now.2,a2.1.field.points,a2.1.certs.next_,a2.1.certs.list,a2.1.agenda.slots.uses,a2.1.agenda.slots.used,a2.1.agenda.slots.free,a2.1.agenda.heap,a2.1.agenda.where_,a2.1.due,s.2.2.2.2.2.2.2.2.2.2.2.2.2.2))
 else
  some (.done (.done (Clock.mk (s.2.2.2.1,s.2.2.2.2.1) (Field.mk s.2.2.2.2.2.1) (Certs.mk s.2.2.2.2.2.2.1 s.2.2.2.2.2.2.2.1) (Agenda.mk (Slots.mk s.2.2.2.2.2.2.2.2.1 s.2.2.2.2.2.2.2.2.2.1 s.2.2.2.2.2.2.2.2.2.2.1) s.2.2.2.2.2.2.2.2.2.2.2.1 s.2.2.2.2.2.2.2.2.2.2.2.2.1) s.2.2.2.2.2.2.2.2.2.2.2.2.2.1,0)))
def kheap_renew_l2 (s:((List (Int×Int))×(List (Int×Int×Int))×Int×Int×Int×Int×(List (Int×Int×Int))×Int×(List (Int×Int×Int))×(List Int)×(List Bool)×(List Int)×(List (Int×Int×Int×Int×Int))×(List Int)×(List (Int×Int×Int))×(List (Int×Int×Int))×Int×Int×Int)):Option (Step ((List (Int×Int))×(List (Int×Int×Int))×Int×Int×Int×Int×(List (Int×Int×Int))×Int×(List (Int×Int×Int))×(List Int)×(List Bool)×(List Int)×(List (Int×Int×Int×Int×Int))×(List Int)×(List (Int×Int×Int))×(List (Int×Int×Int))×Int×Int×Int) (Clock×Int)):=
 bif decide (s.2.2.2.1<s.2.2.1) then
  (geti s.2.1 s.2.2.2.1).bind fun a0=>
  (slices_Contains_Cert s.1 a0.2).bind fun b1=>
  bif !b1 then
   (clock_Retire (Clock.mk (s.2.2.2.2.1,s.2.2.2.2.2.1) (Field.mk s.2.2.2.2.2.2.1) (Certs.mk s.2.2.2.2.2.2.2.1 s.2.2.2.2.2.2.2.2.1) (Agenda.mk (Slots.mk s.2.2.2.2.2.2.2.2.2.1 s.2.2.2.2.2.2.2.2.2.2.1 s.2.2.2.2.2.2.2.2.2.2.2.1) s.2.2.2.2.2.2.2.2.2.2.2.2.1 s.2.2.2.2.2.2.2.2.2.2.2.2.2.1) s.2.2.2.2.2.2.2.2.2.2.2.2.2.2.1) a0.1).bind fun a2=>
   some (.next (s.1,s.2.1,s.2.2.1,wrapF .i64 (s.2.2.2.1+1),a2.1.now.1,a2.1.now.2,a2.1.field.points,a2.1.certs.next_,a2.1.certs.list,a2.1.agenda.slots.uses,a2.1.agenda.slots.used,a2.1.agenda.slots.free,a2.1.agenda.heap,a2.1.agenda.where_,a2.1.due,s.2.2.2.2.2.2.2.2.2.2.2.2.2.2.2))
  else
   some (.next (s.1,s.2.1,s.2.2.1,wrapF .i64 (s.2.2.2.1+1),s.2.2.2.2))
 else
  (slices_Equal_Point s.2.2.2.2.2.2.1 s.2.2.2.2.2.2.2.2.2.2.2.2.2.2.2.1).bind fun b3=>
  bif !b3 then
   (clock_Alter (Clock.mk (s.2.2.2.2.1,s.2.2.2.2.2.1) (Field.mk s.2.2.2.2.2.2.1) (Certs.mk s.2.2.2.2.2.2.2.1 s.2.2.2.2.2.2.2.2.1) (Agenda.mk (Slots.mk s.2.2.2.2.2.2.2.2.2.1 s.2.2.2.2.2.2.2.2.2.2.1 s.2.2.2.2.2.2.2.2.2.2.2.1) s.2.2.2.2.2.2.2.2.2.2.2.2.1 s.2.2.2.2.2.2.2.2.2.2.2.2.2.1) s.2.2.2.2.2.2.2.2.2.2.2.2.2.2.1) (Field.mk s.2.2.2.2.2.2.2.2.2.2.2.2.2.2.2.1)).bind fun a4=>
   bif a4.2 !=0 then
    some (.done (Clock.mk (0,0) (Field.mk []) (Certs.mk 0 []) (Agenda.mk (Slots.mk [] [] []) [] []) [],a4.2))
   else
    whileO kheap_renew_l1 (s.1,Int.ofNat s.1.length,0,a4.1.now.1,a4.1.now.2,a4.1.field.points,a4.1.certs.next_,a4.1.certs.list,a4.1.agenda.slots.uses,a4.1.agenda.slots.used,a4.1.agenda.slots.free,a4.1.agenda.heap,a4.1.agenda.where_,a4.1.due,s.2.2.2.2.2.2.2.2.2.2.2.2.2.2.2.2)
  else
   whileO kheap_renew_l1 (s.1,Int.ofNat s.1.length,0,s.2.2.2.2.1,s.2.2.2.2.2.1,s.2.2.2.2.2.2.1,s.2.2.2.2.2.2.2.1,s.2.2.2.2.2.2.2.2.1,s.2.2.2.2.2.2.2.2.2.1,s.2.2.2.2.2.2.2.2.2.2.1,s.2.2.2.2.2.2.2.2.2.2.2.1,s.2.2.2.2.2.2.2.2.2.2.2.2.1,s.2.2.2.2.2.2.2.2.2.2.2.2.2.1,s.2.2.2.2.2.2.2.2.2.2.2.2.2.2.1,s.2.2.2.2.2.2.2.2.2.2.2.2.2.2.2.2)
def kheap_renew (p0:Clock) (p1:Field) (p2:List (Int×Int)):Option (Clock×Int):=
 whileO kheap_renew_l2 (p2,p0.certs.list,Int.ofNat p0.certs.list.length,0,p0.now.1,p0.now.2,p0.field.points,p0.certs.next_,p0.certs.list,p0.agenda.slots.uses,p0.agenda.slots.used,p0.agenda.slots.free,p0.agenda.heap,p0.agenda.where_,p0.due,p1.points,0,0,0)
def c18:Con:=⟨Args.cons (Arg.agg Clock_c) (Args.cons (Arg.agg Field_c) (Args.one (Arg.sl kii))),Arg.tup (Args.cons (Arg.agg Clock_c) (Args.one (Arg.int .i64))),fun a=>kheap_renew a.1 a.2.1 a.2.2,.frz,false⟩
theorem c18_ok:ConOK tab 18 c18:=Oc tab_18 rfl whileL [(16,c16),(36,c36),(37,c37),(38,c38),(39,c39_40),(41,c41)] ⟨c16_ok,c36_ok,c37_ok,c38_ok,c39_40_ok,c41_ok,trivial⟩ fun a=>by kernel_rfl
def kheap_Renew_l1 (s:((List (Int×Int))×(List (Int×Int))×Int×Int×Int×Int×(List (Int×Int×Int))×Int×(List (Int×Int×Int))×(List Int)×(List Bool)×(List Int)×(List (Int×Int×Int×Int×Int))×(List Int)×(List (Int×Int×Int))×(List (Int×Int×Int))×Int×Int×Int)):Option (Step ((List (Int×Int))×(List (Int×Int))×Int×Int×Int×Int×(List (Int×Int×Int))×Int×(List (Int×Int×Int))×(List Int)×(List Bool)×(List Int)×(List (Int×Int×Int×Int×Int))×(List Int)×(List (Int×Int×Int))×(List (Int×Int×Int))×Int×Int×Int) (Step ((List (Int×Int))×(List (Int×Int))×Int×Int×Int×Int×(List (Int×Int×Int))×Int×(List (Int×Int×Int))×(List Int)×(List Bool)×(List Int)×(List (Int×Int×Int×Int×Int))×(List Int)×(List (Int×Int×Int))×(List (Int×Int×Int))×Int×Int×Int) (Step ((List (Int×Int))×(List (Int×Int))×Int×Int×Int×Int×(List (Int×Int×Int))×Int×(List (Int×Int×Int))×(List Int)×(List Bool)×(List Int)×(List (Int×Int×Int×Int×Int))×(List Int)×(List (Int×Int×Int))×(List (Int×Int×Int))×Int×Int×Int) (Clock×Int)))):=
 bif decide (s.2.2.2.1<s.2.2.1) then
  (geti s.2.1 s.2.2.2.1).bind fun a0=>
  (field_Find (Field.mk s.2.2.2.2.2.2.2.2.2.2.2.2.2.2.2.1) a0.1).bind fun a1=>
  (field_Find (Field.mk s.2.2.2.2.2.2.2.2.2.2.2.2.2.2.2.1) a0.2).bind fun a2=>
  bif a1.2 !=0 then
   some (.done (.done (.done (Clock.mk (0,0) (Field.mk []) (Certs.mk 0 []) (Agenda.mk (Slots.mk [] [] []) [] []) [],6))))
  else
   bif a2.2 !=0 then
    some (.done (.done (.done (Clock.mk (0,0) (Field.mk []) (Certs.mk 0 []) (Agenda.mk (Slots.mk [] [] []) [] []) [],6))))
   else
    some (.next (s.1,s.2.1,s.2.2.1,wrapF .i64 (s.2.2.2.1+1),s.2.2.2.2))
 else
  (kheap_twin (Clock.mk (s.2.2.2.2.1,s.2.2.2.2.2.1) (Field.mk s.2.2.2.2.2.2.1) (Certs.mk s.2.2.2.2.2.2.2.1 s.2.2.2.2.2.2.2.2.1) (Agenda.mk (Slots.mk s.2.2.2.2.2.2.2.2.2.1 s.2.2.2.2.2.2.2.2.2.2.1 s.2.2.2.2.2.2.2.2.2.2.2.1) s.2.2.2.2.2.2.2.2.2.2.2.2.1 s.2.2.2.2.2.2.2.2.2.2.2.2.2.1) s.2.2.2.2.2.2.2.2.2.2.2.2.2.2.1)).bind fun r3=>
  (kheap_renew r3 (Field.mk s.2.2.2.2.2.2.2.2.2.2.2.2.2.2.2.1) s.1).bind fun a4=>
  some (.done (.done (.done a4)))
def kheap_Renew_l2 (s:((List (Int×Int))×(List (Int×Int))×Int×Int×Int×Int×(List (Int×Int×Int))×Int×(List (Int×Int×Int))×(List Int)×(List Bool)×(List Int)×(List (Int×Int×Int×Int×Int))×(List Int)×(List (Int×Int×Int))×(List (Int×Int×Int))×Int×Int×Int)):Option (Step ((List (Int×Int))×(List (Int×Int))×Int×Int×Int×Int×(List (Int×Int×Int))×Int×(List (Int×Int×Int))×(List Int)×(List Bool)×(List Int)×(List (Int×Int×Int×Int×Int))×(List Int)×(List (Int×Int×Int))×(List (Int×Int×Int))×Int×Int×Int) (Step ((List (Int×Int))×(List (Int×Int))×Int×Int×Int×Int×(List (Int×Int×Int))×Int×(List (Int×Int×Int))×(List Int)×(List Bool)×(List Int)×(List (Int×Int×Int×Int×Int))×(List Int)×(List (Int×Int×Int))×(List (Int×Int×Int))×Int×Int×Int) (Clock×Int))):=
 bif decide (s.2.2.2.1<s.2.2.1) then
  (geti s.2.1 s.2.2.2.1).bind fun a0=>
  (sliceO s.1 0 s.2.2.2.1).bind fun l1=>
  (slices_Contains_Cert l1 a0).bind fun b2=>
  bif b2 then
   some (.done (.done (Clock.mk (0,0) (Field.mk []) (Certs.mk 0 []) (Agenda.mk (Slots.mk [] [] []) [] []) [],14)))
  else
   some (.next (s.1,s.2.1,s.2.2.1,wrapF .i64 (s.2.2.2.1+1),s.2.2.2.2))
 else
  whileO kheap_Renew_l1 (s.1,s.1,Int.ofNat s.1.length,0,s.2.2.2.2)
def kheap_Renew_l3 (s:((List (Int×Int))×(List (Int×Int))×Int×Int×Int×Int×(List (Int×Int×Int))×Int×(List (Int×Int×Int))×(List Int)×(List Bool)×(List Int)×(List (Int×Int×Int×Int×Int))×(List Int)×(List (Int×Int×Int))×(List (Int×Int×Int))×Int×Int×Int)):Option (Step ((List (Int×Int))×(List (Int×Int))×Int×Int×Int×Int×(List (Int×Int×Int))×Int×(List (Int×Int×Int))×(List Int)×(List Bool)×(List Int)×(List (Int×Int×Int×Int×Int))×(List Int)×(List (Int×Int×Int))×(List (Int×Int×Int))×Int×Int×Int) (Clock×Int)):=
 bif decide (s.2.2.2.1<s.2.2.1) then
  (geti s.2.1 s.2.2.2.1).bind fun a0=>
  bif decide (a0.1<0) then
   some (.done (Clock.mk (0,0) (Field.mk []) (Certs.mk 0 []) (Agenda.mk (Slots.mk [] [] []) [] []) [],8))
  else
   bif decide (a0.2<0) then
    some (.done (Clock.mk (0,0) (Field.mk []) (Certs.mk 0 []) (Agenda.mk (Slots.mk [] [] []) [] []) [],8))
   else
    bif decide (65535<a0.1) then
     some (.done (Clock.mk (0,0) (Field.mk []) (Certs.mk 0 []) (Agenda.mk (Slots.mk [] [] []) [] []) [],8))
    else
     bif decide (65535<a0.2) then
      some (.done (Clock.mk (0,0) (Field.mk []) (Certs.mk 0 []) (Agenda.mk (Slots.mk [] [] []) [] []) [],8))
     else
      bif a0.1==a0.2 then
       some (.done (Clock.mk (0,0) (Field.mk []) (Certs.mk 0 []) (Agenda.mk (Slots.mk [] [] []) [] []) [],8))
      else
       some (.next (s.1,s.2.1,s.2.2.1,wrapF .i64 (s.2.2.2.1+1),s.2.2.2.2))
 else
  whileO kheap_Renew_l2 (s.1,s.1,Int.ofNat s.1.length,0,s.2.2.2.2)
def kheap_Renew (p0:Clock) (p1:Field) (p2:List (Int×Int)):Option (Clock×Int):=
 (clock_Check p0).bind fun n0=>
 bif n0 !=0 then
  some (Clock.mk (0,0) (Field.mk []) (Certs.mk 0 []) (Agenda.mk (Slots.mk [] [] []) [] []) [],n0)
 else
  (field_Check p1).bind fun n1=>
  bif n1 !=0 then
   some (Clock.mk (0,0) (Field.mk []) (Certs.mk 0 []) (Agenda.mk (Slots.mk [] [] []) [] []) [],n1)
  else
   whileO kheap_Renew_l3 (p2,p2,Int.ofNat p2.length,0,p0.now.1,p0.now.2,p0.field.points,p0.certs.next_,p0.certs.list,p0.agenda.slots.uses,p0.agenda.slots.used,p0.agenda.slots.free,p0.agenda.heap,p0.agenda.where_,p0.due,p1.points,0,0,0)
def c7:Con:=⟨Args.cons (Arg.agg Clock_c) (Args.cons (Arg.agg Field_c) (Args.one (Arg.sl kii))),Arg.tup (Args.cons (Arg.agg Clock_c) (Args.one (Arg.int .i64))),fun a=>kheap_Renew a.1 a.2.1 a.2.2,.frz,false⟩
theorem c7_ok:ConOK tab 7 c7:=Oc tab_7 rfl whileL [(14,c14),(15,c15),(16,c16),(17,c17),(19,c19),(19,c19p),(18,c18)] ⟨c14_ok,c15_ok,c16_ok,c17_ok,c19_ok,c19p_ok,c18_ok,trivial⟩ fun a=>by kernel_rfl
def ref01_size (p0:Int):Option Int:=
 bif decide (p0<0) then
  some (wrapF .u64 ((wrapF .u64 (wrapF .i64 (0- (wrapF .i64 (p0+1)))))+1))
 else
  some (wrapF .u64 p0)
def c83:Con:=⟨Args.one (Arg.int .i64),Arg.int .u64,fun a=>ref01_size a,.pure,false⟩
theorem c83_ok:ConOK tab 83 c83:=Oc tab_83 rfl whileL [] trivial fun a=>by kernel_rfl
def ref01_common_l1 (s:(Int×Int)):Option (Step (Int×Int) Int):=
 bif s.2 !=0 then
  bif s.2==0 then
   none
  else
   some (.next (s.2,Int.tmod s.1 s.2))
 else
  some (.done s.1)
def ref01_common (p0:Int) (p1:Int):Option Int:=
 whileO ref01_common_l1 (p0,p1)
def c82:Con:=⟨Args.cons (Arg.int .u64) (Args.one (Arg.int .u64)),Arg.int .u64,fun a=>ref01_common a.1 a.2,.pure,false⟩
theorem c82_ok:ConOK tab 82 c82:=Oc tab_82 rfl whileL [] trivial fun a=>by kernel_rfl
def ref01_Check (p0:Int×Int):Option Int:=
 bif decide (p0.2<1) then
  some 8
 else
  bif p0.1==(-9223372036854775808) then
   some 8
  else
   (ref01_size p0.1).bind fun n0=>
   (ref01_common n0 (wrapF .u64 p0.2)).bind fun n1=>
   bif n1 !=1 then
    some 8
   else
    some 0
def c48:Con:=⟨Args.one (Arg.agg (Cod.row kii)),Arg.int .i64,fun a=>ref01_Check a,.pure,false⟩
theorem c48_ok:ConOK tab 48 c48:=Oc tab_48 rfl whileL [(83,c83),(82,c82)] ⟨c83_ok,c82_ok,trivial⟩ fun a=>by kernel_rfl
def ref02_Check (p0:Int×Int×Int):Option Int:=
 bif decide (p0.1<0) then
  some 8
 else
  bif decide (65535<p0.1) then
   some 8
  else
   bif decide (p0.2.1<(-1048576)) then
    some 8
   else
    bif decide (1048576<p0.2.1) then
     some 8
    else
     bif decide (p0.2.2<(-1048576)) then
      some 8
     else
      bif decide (1048576<p0.2.2) then
       some 8
      else
       some 0
def c54:Con:=⟨Args.one (Arg.agg (Cod.row kiii)),Arg.int .i64,fun a=>ref02_Check a,.pure,false⟩
theorem c54_ok:ConOK tab 54 c54:=Oc tab_54 rfl whileL [] trivial fun a=>by kernel_rfl
def ref03_Check_l1 (s:(Int×(List (Int×Int×Int)))):Option (Step (Int×(List (Int×Int×Int))) (Step (Int×(List (Int×Int×Int))) Int)):=
 bif decide (s.1<(Int.ofNat s.2.length)) then
  (geti s.2 (wrapF .i64 (s.1-1))).bind fun a0=>
  (geti s.2 s.1).bind fun a1=>
  bif decide (a1.1<=a0.1) then
   some (.done (.done 32))
  else
   some (.next (wrapF .i64 (s.1+1),s.2))
 else
  some (.done (.done 0))
def ref03_Check_l2 (s:(Int×(List (Int×Int×Int)))):Option (Step (Int×(List (Int×Int×Int))) Int):=
 bif decide (s.1<(Int.ofNat s.2.length)) then
  (geti s.2 s.1).bind fun a0=>
  (ref02_Check a0).bind fun n1=>
  bif n1 !=0 then
   some (.done 8)
  else
   some (.next (wrapF .i64 (s.1+1),s.2))
 else
  whileO ref03_Check_l1 (1,s.2)
def ref03_Check (p0:Field):Option Int:=
 bif decide (64<(Int.ofNat p0.points.length)) then
  some 4
 else
  whileO ref03_Check_l2 (0,p0.points)
def c21:Con:=⟨Args.one (Arg.agg Field_c),Arg.int .i64,fun a=>ref03_Check a,.pure,false⟩
theorem c21_ok:ConOK tab 21 c21:=Oc tab_21 rfl whileL [(54,c54)] ⟨c54_ok,trivial⟩ fun a=>by kernel_rfl
def ref08_Cert (p0:Int×Int):Option Bool:=
 bif decide (0<=p0.1) then
  bif decide (p0.1<=65535) then
   bif decide (0<=p0.2) then
    bif decide (p0.2<=65535) then
     some (p0.1 !=p0.2)
    else
     some false
   else
    some false
  else
   some false
 else
  some false
def c55:Con:=⟨Args.one (Arg.agg (Cod.row kii)),Arg.bool,fun a=>ref08_Cert a,.pure,false⟩
theorem c55_ok:ConOK tab 55 c55:=Oc tab_55 rfl whileL [] trivial fun a=>by kernel_rfl
def ref08_Check_l1 (s:(Int×Int×Int×(List (Int×Int×Int))×Int×Int×Int)):Option (Step (Int×Int×Int×(List (Int×Int×Int))×Int×Int×Int) (Step (Int×Int×(List (Int×Int×Int))) Int)):=
 bif decide (s.2.1<s.1) then
  (geti s.2.2.2.1 s.2.1).bind fun a0=>
  bif (a0.2.1==s.2.2.2.2.2.1)&&(a0.2.2==s.2.2.2.2.2.2) then
   some (.done (.done 8))
  else
   some (.next (s.1,wrapF .i64 (s.2.1+1),s.2.2))
 else
  some (.done (.next (wrapF .i64 (s.1+1),s.2.2.1,s.2.2.2.1)))
def ref08_Check_l2 (s:(Int×Int×(List (Int×Int×Int)))):Option (Step (Int×Int×(List (Int×Int×Int))) Int):=
 bif decide (s.1<(Int.ofNat s.2.2.length)) then
  (geti s.2.2 s.1).bind fun a0=>
  (ref08_Cert a0.2).bind fun b1=>
  bif !b1 then
   some (.done 8)
  else
   bif decide (a0.1<0) then
    some (.done 8)
   else
    bif decide (s.2.1<=a0.1) then
     some (.done 8)
    else
     bif decide (0<s.1) then
      (geti s.2.2 (wrapF .i64 (s.1-1))).bind fun a2=>
      bif decide (a0.1<=a2.1) then
       some (.done 8)
      else
       whileO ref08_Check_l1 (s.1,0,s.2.1,s.2.2,a0)
     else
      whileO ref08_Check_l1 (s.1,0,s.2.1,s.2.2,a0)
 else
  some (.done 0)
def ref08_Check (p0:Certs):Option Int:=
 bif decide (200<(Int.ofNat p0.list.length)) then
  some 8
 else
  bif decide (p0.next_<0) then
   some 8
  else
   bif decide (1000000<p0.next_) then
    some 8
   else
    whileO ref08_Check_l2 (0,p0.next_,p0.list)
def c49:Con:=⟨Args.one (Arg.agg Certs_c),Arg.int .i64,fun a=>ref08_Check a,.pure,false⟩
theorem c49_ok:ConOK tab 49 c49:=Oc tab_49 rfl whileL [(55,c55)] ⟨c55_ok,trivial⟩ fun a=>by kernel_rfl
def ref03_At_l1 (s:(Int×Int×(List (Int×Int×Int)))):Option (Step (Int×Int×(List (Int×Int×Int))) Int):=
 bif decide (s.2.1<(Int.ofNat s.2.2.length)) then
  (geti s.2.2 s.2.1).bind fun a0=>
  bif a0.1==s.1 then
   some (.done s.2.1)
  else
   some (.next (s.1,wrapF .i64 (s.2.1+1),s.2.2))
 else
  some (.done (-1))
def ref03_At (p0:Field) (p1:Int):Option Int:=
 whileO ref03_At_l1 (p1,0,p0.points)
def c57:Con:=⟨Args.cons (Arg.agg Field_c) (Args.one (Arg.int .i64)),Arg.int .i64,fun a=>ref03_At a.1 a.2,.pure,false⟩
theorem c57_ok:ConOK tab 57 c57:=Oc tab_57 rfl whileL [] trivial fun a=>by kernel_rfl
def ref08_Known_l1 (s:(Int×Int×(List (Int×Int×Int))×(List (Int×Int×Int)))):Option (Step (Int×Int×(List (Int×Int×Int))×(List (Int×Int×Int))) Bool):=
 bif decide (s.1<(Int.ofNat s.2.2.1.length)) then
  (geti s.2.2.1 s.1).bind fun a0=>
  (ref03_At (Field.mk s.2.2.2) a0.2.1).bind fun n1=>
  bif decide (n1<0) then
   some (.done false)
  else
   (geti s.2.2.1 s.1).bind fun a2=>
   (ref03_At (Field.mk s.2.2.2) a2.2.2).bind fun n3=>
   bif decide (n3<0) then
    some (.done false)
   else
    some (.next (wrapF .i64 (s.1+1),s.2))
 else
  some (.done true)
def ref08_Known (p0:Certs) (p1:Field):Option Bool:=
 whileO ref08_Known_l1 (0,p0.next_,p0.list,p1.points)
def c50:Con:=⟨Args.cons (Arg.agg Certs_c) (Args.one (Arg.agg Field_c)),Arg.bool,fun a=>ref08_Known a.1 a.2,.pure,false⟩
theorem c50_ok:ConOK tab 50 c50:=Oc tab_50 rfl whileL [(57,c57)] ⟨c57_ok,trivial⟩ fun a=>by kernel_rfl
def ref06_Check_l1 (s:(Int×Int×(List Int)×(List Bool)×(List Int)×(List Bool))):Option (Step (Int×Int×(List Int)×(List Bool)×(List Int)×(List Bool)) (Step (Int×Int×(List Int)×(List Bool)×(List Int)×(List Bool)) Int)):=
 bif decide (s.2.1<s.1) then
  (geti s.2.2.1 s.2.1).bind fun n0=>
  bif decide (n0<0) then
   some (.done (.done 8))
  else
   (geti s.2.2.1 s.2.1).bind fun n1=>
   bif decide (1000000<n1) then
    some (.done (.done 8))
   else
    (geti s.2.2.2.1 s.2.1).bind fun b2=>
    (geti s.2.2.2.2.2 s.2.1).bind fun b3=>
    bif b2==b3 then
     some (.done (.done 8))
    else
     (geti s.2.2.2.1 s.2.1).bind fun b4=>
     bif b4 then
      (geti s.2.2.1 s.2.1).bind fun n5=>
      bif decide (n5<1) then
       some (.done (.done 8))
      else
       some (.next (s.1,wrapF .i64 (s.2.1+1),s.2.2))
     else
      some (.next (s.1,wrapF .i64 (s.2.1+1),s.2.2))
 else
  some (.done (.done 0))
def ref06_Check_l2 (s:(Int×Int×(List Int)×(List Bool)×(List Int)×(List Bool))):Option (Step (Int×Int×(List Int)×(List Bool)×(List Int)×(List Bool)) Int):=
 bif decide (s.2.1<(Int.ofNat s.2.2.2.2.1.length)) then
  (geti s.2.2.2.2.1 s.2.1).bind fun n0=>
  bif decide (n0<0) then
   some (.done 8)
  else
   (geti s.2.2.2.2.1 s.2.1).bind fun n1=>
   bif decide (s.1<=n1) then
    some (.done 8)
   else
    (geti s.2.2.2.2.1 s.2.1).bind fun n2=>
    (geti s.2.2.2.2.2 n2).bind fun b3=>
    bif b3 then
     some (.done 8)
    else
     (geti s.2.2.2.2.1 s.2.1).bind fun n4=>
     (geti s.2.2.2.2.2 n4).bind fun _=>
     some (.next (s.1,wrapF .i64 (s.2.1+1),s.2.2.1,s.2.2.2.1,s.2.2.2.2.1,seti s.2.2.2.2.2 n4 true))
 else
  whileO ref06_Check_l1 (s.1,0,s.2.2)
def ref06_Check (p0:Slots):Option Int:=
 bif decide ((Int.ofNat p0.uses.length)<1) then
  some 8
 else
  bif decide (200<(Int.ofNat p0.uses.length)) then
   some 8
  else
   bif (Int.ofNat p0.used.length) !=(Int.ofNat p0.uses.length) then
    some 8
   else
    bif decide ((Int.ofNat p0.uses.length)<(Int.ofNat p0.free.length)) then
     some 8
    else
     bif (Int.ofNat p0.uses.length)==(Int.ofNat p0.uses.length) then
      (makeO (Int.ofNat p0.uses.length) (false:Bool)).bind fun l0=>
      whileO ref06_Check_l2 (Int.ofNat p0.uses.length,0,p0.uses,p0.used,p0.free,l0)
     else
      none
def c84:Con:=⟨Args.one (Arg.agg Slots_c),Arg.int .i64,fun a=>ref06_Check a,.pure,false⟩
theorem c84_ok:ConOK tab 84 c84:=Oc tab_84 rfl whileL [] trivial fun a=>by kernel_rfl
def ref06_Live (p0:Slots) (p1:Int×Int):Option Bool:=
 bif decide (0<=p1.1) then
  bif decide (p1.1<(Int.ofNat p0.uses.length)) then
   (geti p0.used p1.1).bind fun b0=>
   bif b0 then
    (geti p0.uses p1.1).bind fun n1=>
    some (n1==p1.2)
   else
    some false
  else
   some false
 else
  some false
def c88:Con:=⟨Args.cons (Arg.agg Slots_c) (Args.one (Arg.agg (Cod.row kii))),Arg.bool,fun a=>ref06_Live a.1 a.2,.pure,false⟩
theorem c88_ok:ConOK tab 88 c88:=Oc tab_88 rfl whileL [] trivial fun a=>by kernel_rfl
def ref07_placed_l1 (s:(Int×Int×(List Int)×(List Bool)×(List Int)×(List (Int×Int×Int×Int×Int))×(List Int))):Option (Step (Int×Int×(List Int)×(List Bool)×(List Int)×(List (Int×Int×Int×Int×Int))×(List Int)) Bool):=
 bif decide (s.2.1<s.1) then
  (geti s.2.2.2.1 s.2.1).bind fun b0=>
  bif !b0 then
   (geti s.2.2.2.2.2.2 s.2.1).bind fun n1=>
   bif n1 !=(-1) then
    some (.done false)
   else
    some (.next (s.1,wrapF .i64 (s.2.1+1),s.2.2))
  else
   (geti s.2.2.2.2.2.2 s.2.1).bind fun n2=>
   bif decide (n2<0) then
    some (.done false)
   else
    bif decide ((Int.ofNat s.2.2.2.2.2.1.length)<=n2) then
     some (.done false)
    else
     (geti s.2.2.2.2.2.1 n2).bind fun a3=>
     bif a3.2.2.2.1 !=s.2.1 then
      some (.done false)
     else
      (geti s.2.2.2.2.2.1 n2).bind fun a4=>
      (ref06_Live (Slots.mk s.2.2.1 s.2.2.2.1 s.2.2.2.2.1) a4.2.2.2).bind fun b5=>
      bif !b5 then
       some (.done false)
      else
       some (.next (s.1,wrapF .i64 (s.2.1+1),s.2.2))
 else
  some (.done true)
def ref07_placed (p0:Agenda):Option Bool:=
 bif (Int.ofNat p0.where_.length) !=(Int.ofNat p0.slots.uses.length) then
  some false
 else
  bif (Int.ofNat p0.heap.length) !=(wrapF .i64 ((Int.ofNat p0.slots.uses.length) - (Int.ofNat p0.slots.free.length))) then
   some false
  else
   whileO ref07_placed_l1 (Int.ofNat p0.slots.uses.length,0,p0.slots.uses,p0.slots.used,p0.slots.free,p0.heap,p0.where_)
def c85:Con:=⟨Args.one (Arg.agg Agenda_c),Arg.bool,fun a=>ref07_placed a,.pure,false⟩
theorem c85_ok:ConOK tab 85 c85:=Oc tab_85 rfl whileL [(88,c88)] ⟨c88_ok,trivial⟩ fun a=>by kernel_rfl
def ref01_product (p0:Int) (p1:Int):Option (Bool×Int×Int):=
 some (false,wrapF .u64 ((wrapF .u64 ((wrapF .u64 ((wrapF .u64 (Int.tdiv p0 4294967296))*(wrapF .u64 (Int.tdiv p1 4294967296))))+(wrapF .u64 (Int.tdiv (wrapF .u64 ((wrapF .u64 ((wrapF .u64 (Int.tdiv p0 4294967296))*(Int.tmod p1 4294967296)))+(wrapF .u64 (Int.tdiv (wrapF .u64 ((Int.tmod p0 4294967296)*(Int.tmod p1 4294967296))) 4294967296)))) 4294967296))))+(wrapF .u64 (Int.tdiv (wrapF .u64 ((wrapF .u64 ((Int.tmod p0 4294967296)*(wrapF .u64 (Int.tdiv p1 4294967296))))+(Int.tmod (wrapF .u64 ((wrapF .u64 ((wrapF .u64 (Int.tdiv p0 4294967296))*(Int.tmod p1 4294967296)))+(wrapF .u64 (Int.tdiv (wrapF .u64 ((Int.tmod p0 4294967296)*(Int.tmod p1 4294967296))) 4294967296)))) 4294967296))) 4294967296))),wrapF .u64 ((wrapF .u64 ((Int.tmod (wrapF .u64 ((wrapF .u64 ((Int.tmod p0 4294967296)*(wrapF .u64 (Int.tdiv p1 4294967296))))+(Int.tmod (wrapF .u64 ((wrapF .u64 ((wrapF .u64 (Int.tdiv p0 4294967296))*(Int.tmod p1 4294967296)))+(wrapF .u64 (Int.tdiv (wrapF .u64 ((Int.tmod p0 4294967296)*(Int.tmod p1 4294967296))) 4294967296)))) 4294967296))) 4294967296)*4294967296))+(Int.tmod (wrapF .u64 ((Int.tmod p0 4294967296)*(Int.tmod p1 4294967296))) 4294967296)))
def c160:Con:=⟨Args.cons (Arg.int .u64) (Args.one (Arg.int .u64)),Arg.agg (Cod.row kbuu),fun a=>ref01_product a.1 a.2,.pure,false⟩
theorem c160_ok:ConOK tab 160 c160:=Oc tab_160 rfl whileL [] trivial fun a=>by kernel_rfl
def ref01_Product (p0:Int) (p1:Int):Option (Bool×Int×Int):=
 (ref01_size p0).bind fun n0=>
 (ref01_size p1).bind fun n1=>
 (ref01_product n0 n1).bind fun a2=>
 bif !((decide (p0<0))==(decide (p1<0))) then
  bif p0 !=0 then
   some (p1 !=0,a2.2)
  else
   some (false,a2.2)
 else
  some (false,a2.2)
def c146:Con:=⟨Args.cons (Arg.int .i64) (Args.one (Arg.int .i64)),Arg.agg (Cod.row kbuu),fun a=>ref01_Product a.1 a.2,.pure,false⟩
theorem c146_ok:ConOK tab 146 c146:=Oc tab_146 rfl whileL [(83,c83),(160,c160)] ⟨c83_ok,c160_ok,trivial⟩ fun a=>by kernel_rfl
def ref01_Sign (p0:Bool×Int×Int):Option Int:=
 bif p0.2.1==0 then
  bif p0.2.2==0 then
   some 0
  else
   bif p0.1 then
    some (-1)
   else
    some 1
 else
  bif p0.1 then
   some (-1)
  else
   some 1
def c147:Con:=⟨Args.one (Arg.agg (Cod.row kbuu)),Arg.int .i64,fun a=>ref01_Sign a,.pure,false⟩
theorem c147_ok:ConOK tab 147 c147:=Oc tab_147 rfl whileL [] trivial fun a=>by kernel_rfl
def ref01_less (p0:Bool×Int×Int) (p1:Bool×Int×Int):Option Int:=
 bif p0.2.1 !=p1.2.1 then
  bif decide (p0.2.1<p1.2.1) then
   some (-1)
  else
   some 1
 else
  bif p0.2.2 !=p1.2.2 then
   bif decide (p0.2.2<p1.2.2) then
    some (-1)
   else
    some 1
  else
   some 0
def c148:Con:=⟨Args.cons (Arg.agg (Cod.row kbuu)) (Args.one (Arg.agg (Cod.row kbuu))),Arg.int .i64,fun a=>ref01_less a.1 a.2,.pure,false⟩
theorem c148_ok:ConOK tab 148 c148:=Oc tab_148 rfl whileL [] trivial fun a=>by kernel_rfl
def ref01_Compare (p0:Int×Int) (p1:Int×Int):Option Int:=
 (ref01_Product p0.1 p1.2).bind fun a0=>
 (ref01_Product p1.1 p0.2).bind fun a1=>
 (ref01_Sign a0).bind fun n2=>
 (ref01_Sign a1).bind fun n3=>
 bif n2 !=n3 then
  (ref01_Sign a0).bind fun n4=>
  (ref01_Sign a1).bind fun n5=>
  bif decide (n4<n5) then
   some (-1)
  else
   some 1
 else
  (ref01_Sign a0).bind fun n6=>
  bif decide (n6<0) then
   (ref01_less a1 a0).bind fun n7=>
   some n7
  else
   (ref01_less a0 a1).bind fun n8=>
   some n8
def c121:Con:=⟨Args.cons (Arg.agg (Cod.row kii)) (Args.one (Arg.agg (Cod.row kii))),Arg.int .i64,fun a=>ref01_Compare a.1 a.2,.pure,false⟩
theorem c121_ok:ConOK tab 121 c121:=Oc tab_121 rfl whileL [(146,c146),(147,c147),(148,c148)] ⟨c146_ok,c147_ok,c148_ok,trivial⟩ fun a=>by kernel_rfl
def ref07_Less (p0:Int×Int×Int×Int×Int) (p1:Int×Int×Int×Int×Int):Option Bool:=
 (ref01_Compare (p0.1,p0.2.1) (p1.1,p1.2.1)).bind fun n0=>
 bif decide (n0<0) then
  some true
 else
  bif n0==0 then
   some (decide (p0.2.2.1<p1.2.2.1))
  else
   some false
def c86:Con:=⟨Args.cons (Arg.agg (Cod.row kiiiii)) (Args.one (Arg.agg (Cod.row kiiiii))),Arg.bool,fun a=>ref07_Less a.1 a.2,.pure,false⟩
theorem c86_ok:ConOK tab 86 c86:=Oc tab_86 rfl whileL [(121,c121)] ⟨c121_ok,trivial⟩ fun a=>by kernel_rfl
def ref07_Check_l1 (s:(Int×Int×(List Int)×(List Bool)×(List Int)×(List (Int×Int×Int×Int×Int))×(List Int)×Int×Int×Int×Int×Int)):Option (Step (Int×Int×(List Int)×(List Bool)×(List Int)×(List (Int×Int×Int×Int×Int))×(List Int)×Int×Int×Int×Int×Int) (Step (Int×(List Int)×(List Bool)×(List Int)×(List (Int×Int×Int×Int×Int))×(List Int)) Int)):=
 bif decide (s.2.1<s.1) then
  (geti s.2.2.2.2.2.1 s.2.1).bind fun a0=>
  bif a0.2.2.1==s.2.2.2.2.2.2.2.2.2.1 then
   some (.done (.done 8))
  else
   some (.next (s.1,wrapF .i64 (s.2.1+1),s.2.2))
 else
  some (.done (.next (wrapF .i64 (s.1+1),s.2.2.1,s.2.2.2.1,s.2.2.2.2.1,s.2.2.2.2.2.1,s.2.2.2.2.2.2.1)))
def ref07_Check_l2 (s:(Int×(List Int)×(List Bool)×(List Int)×(List (Int×Int×Int×Int×Int))×(List Int))):Option (Step (Int×(List Int)×(List Bool)×(List Int)×(List (Int×Int×Int×Int×Int))×(List Int)) (Step (Int×(List Int)×(List Bool)×(List Int)×(List (Int×Int×Int×Int×Int))×(List Int)) Int)):=
 bif decide (s.1<(Int.ofNat s.2.2.2.2.1.length)) then
  (geti s.2.2.2.2.1 s.1).bind fun a0=>
  (geti s.2.2.2.2.1 (wrapF .i64 (Int.tdiv (wrapF .i64 (s.1-1)) 2))).bind fun a1=>
  (ref07_Less a0 a1).bind fun b2=>
  bif b2 then
   some (.done (.done 8))
  else
   some (.next (wrapF .i64 (s.1+1),s.2))
 else
  some (.done (.done 0))
def ref07_Check_l3 (s:(Int×(List Int)×(List Bool)×(List Int)×(List (Int×Int×Int×Int×Int))×(List Int))):Option (Step (Int×(List Int)×(List Bool)×(List Int)×(List (Int×Int×Int×Int×Int))×(List Int)) Int):=
 bif decide (s.1<(Int.ofNat s.2.2.2.2.1.length)) then
  (geti s.2.2.2.2.1 s.1).bind fun a0=>
  (ref01_Check (a0.1,a0.2.1)).bind fun n1=>
  bif n1 !=0 then
   some (.done 8)
  else
   bif decide (a0.2.2.1<0) then
    some (.done 8)
   else
    bif decide (1000000<a0.2.2.1) then
     some (.done 8)
    else
     whileO ref07_Check_l1 (s.1,0,s.2.1,s.2.2.1,s.2.2.2.1,s.2.2.2.2.1,s.2.2.2.2.2,a0)
 else
  whileO ref07_Check_l2 (1,s.2)
def ref07_Check (p0:Agenda):Option Int:=
 (ref06_Check p0.slots).bind fun n0=>
 bif n0 !=0 then
  some 8
 else
  (ref07_placed p0).bind fun b1=>
  bif !b1 then
   some 8
  else
   whileO ref07_Check_l3 (0,p0.slots.uses,p0.slots.used,p0.slots.free,p0.heap,p0.where_)
def c51:Con:=⟨Args.one (Arg.agg Agenda_c),Arg.int .i64,fun a=>ref07_Check a,.pure,false⟩
theorem c51_ok:ConOK tab 51 c51:=Oc tab_51 rfl whileL [(84,c84),(85,c85),(48,c48),(86,c86)] ⟨c84_ok,c85_ok,c48_ok,c86_ok,trivial⟩ fun a=>by kernel_rfl
def ref01_minus (p0:Bool×Int×Int) (p1:Bool×Int×Int):Option (Bool×Int×Int):=
 bif decide (p0.2.2<p1.2.2) then
  some (false,wrapF .u64 ((wrapF .u64 (p0.2.1-p1.2.1)) -1),wrapF .u64 (p0.2.2-p1.2.2))
 else
  some (false,wrapF .u64 (p0.2.1-p1.2.1),wrapF .u64 (p0.2.2-p1.2.2))
def c164:Con:=⟨Args.cons (Arg.agg (Cod.row kbuu)) (Args.one (Arg.agg (Cod.row kbuu))),Arg.agg (Cod.row kbuu),fun a=>ref01_minus a.1 a.2,.pure,false⟩
theorem c164_ok:ConOK tab 164 c164:=Oc tab_164 rfl whileL [] trivial fun a=>by kernel_rfl
def ref01_Plus (p0:Bool×Int×Int) (p1:Bool×Int×Int):Option (Bool×Int×Int):=
 bif p0.1==p1.1 then
  bif decide ((wrapF .u64 (p0.2.2+p1.2.2))<p0.2.2) then
   some (p0.1,wrapF .u64 ((wrapF .u64 (p0.2.1+p1.2.1))+1),wrapF .u64 (p0.2.2+p1.2.2))
  else
   some (p0.1,wrapF .u64 (p0.2.1+p1.2.1),wrapF .u64 (p0.2.2+p1.2.2))
 else
  (ref01_less p0 p1).bind fun n0=>
  bif decide (0<=n0) then
   (ref01_minus p0 p1).bind fun a1=>
   bif p0.1 then
    bif decide (0<a1.2.1) then
     some (true,a1.2)
    else
     some (decide (0<a1.2.2),a1.2)
   else
    some (false,a1.2)
  else
   (ref01_minus p1 p0).bind fun a2=>
   some (p1.1,a2.2)
def c161:Con:=⟨Args.cons (Arg.agg (Cod.row kbuu)) (Args.one (Arg.agg (Cod.row kbuu))),Arg.agg (Cod.row kbuu),fun a=>ref01_Plus a.1 a.2,.pure,false⟩
theorem c161_ok:ConOK tab 161 c161:=Oc tab_161 rfl whileL [(148,c148),(164,c164)] ⟨c148_ok,c164_ok,trivial⟩ fun a=>by kernel_rfl
def ref02_Far (p0:Int×Int×Int) (p1:Int×Int×Int) (p2:Int×Int):Option Int:=
 (ref01_Product (wrapF .i64 (p0.2.1-p1.2.1)) p2.2).bind fun a0=>
 (ref01_Product (wrapF .i64 (p0.2.2-p1.2.2)) p2.1).bind fun a1=>
 (ref01_Plus a0 a1).bind fun a2=>
 (ref01_Sign a2).bind fun n3=>
 some n3
def c149:Con:=⟨Args.cons (Arg.agg (Cod.row kiii)) (Args.cons (Arg.agg (Cod.row kiii)) (Args.one (Arg.agg (Cod.row kii)))),Arg.int .i64,fun a=>ref02_Far a.1 a.2.1 a.2.2,.pure,false⟩
theorem c149_ok:ConOK tab 149 c149:=Oc tab_149 rfl whileL [(146,c146),(161,c161),(147,c147)] ⟨c146_ok,c161_ok,c147_ok,trivial⟩ fun a=>by kernel_rfl
def ref02_Leads (p0:Int×Int×Int) (p1:Int×Int×Int) (p2:Int×Int):Option Bool:=
 (ref02_Far p0 p1 p2).bind fun n0=>
 bif n0 !=0 then
  some (decide (0<n0))
 else
  bif p0.2.2 !=p1.2.2 then
   some (decide (p1.2.2<p0.2.2))
  else
   some (decide (p0.1<p1.1))
def c122:Con:=⟨Args.cons (Arg.agg (Cod.row kiii)) (Args.cons (Arg.agg (Cod.row kiii)) (Args.one (Arg.agg (Cod.row kii)))),Arg.bool,fun a=>ref02_Leads a.1 a.2.1 a.2.2,.pure,false⟩
theorem c122_ok:ConOK tab 122 c122:=Oc tab_122 rfl whileL [(149,c149)] ⟨c149_ok,trivial⟩ fun a=>by kernel_rfl
def ref01_made (p0:Bool) (p1:Bool×Int×Int) (p2:Bool×Int×Int):Option ((Int×Int)×Int):=
 bif decide (0<p1.2.1) then
  some ((0,0),16)
 else
  bif decide (9223372036854775807<p1.2.2) then
   some ((0,0),16)
  else
   bif decide (0<p2.2.1) then
    some ((0,0),16)
   else
    bif decide (9223372036854775807<p2.2.2) then
     some ((0,0),16)
    else
     bif p0 then
      some ((wrapF .i64 (0- (wrapF .i64 p1.2.2)),wrapF .i64 p2.2.2),0)
     else
      some ((wrapF .i64 p1.2.2,wrapF .i64 p2.2.2),0)
def c162:Con:=⟨Args.cons Arg.bool (Args.cons (Arg.agg (Cod.row kbuu)) (Args.one (Arg.agg (Cod.row kbuu)))),Arg.tup (Args.cons (Arg.agg (Cod.row kii)) (Args.one (Arg.int .i64))),fun a=>ref01_made a.1 a.2.1 a.2.2,.pure,false⟩
theorem c162_ok:ConOK tab 162 c162:=Oc tab_162 rfl whileL [] trivial fun a=>by kernel_rfl
def ref01_Make (p0:Int) (p1:Int):Option ((Int×Int)×Int):=
 bif p1==0 then
  some ((0,0),26)
 else
  (ref01_size p0).bind fun n0=>
  (ref01_size p1).bind fun n1=>
  (ref01_common n0 n1).bind fun n2=>
  bif !((decide (p0<0))==(decide (p1<0))) then
   (ref01_size p0).bind fun n3=>
   bif n2==0 then
    none
   else
    (ref01_size p1).bind fun n4=>
    bif n2==0 then
     none
    else
     (ref01_made (p0 !=0) (false,0,wrapF .u64 (Int.tdiv n3 n2)) (false,0,wrapF .u64 (Int.tdiv n4 n2))).bind fun a5=>
     some a5
  else
   (ref01_size p0).bind fun n6=>
   bif n2==0 then
    none
   else
    (ref01_size p1).bind fun n7=>
    bif n2==0 then
     none
    else
     (ref01_made false (false,0,wrapF .u64 (Int.tdiv n6 n2)) (false,0,wrapF .u64 (Int.tdiv n7 n2))).bind fun a8=>
     some a8
def c150:Con:=⟨Args.cons (Arg.int .i64) (Args.one (Arg.int .i64)),Arg.tup (Args.cons (Arg.agg (Cod.row kii)) (Args.one (Arg.int .i64))),fun a=>ref01_Make a.1 a.2,.pure,false⟩
theorem c150_ok:ConOK tab 150 c150:=Oc tab_150 rfl whileL [(83,c83),(82,c82),(162,c162)] ⟨c83_ok,c82_ok,c162_ok,trivial⟩ fun a=>by kernel_rfl
def ref02_Met (p0:Int×Int×Int) (p1:Int×Int×Int):Option (Int×Int):=
 (ref01_Make (wrapF .i64 (p0.2.1-p1.2.1)) (wrapF .i64 (p1.2.2-p0.2.2))).bind fun a0=>
 some a0.1
def c123:Con:=⟨Args.cons (Arg.agg (Cod.row kiii)) (Args.one (Arg.agg (Cod.row kiii))),Arg.agg (Cod.row kii),fun a=>ref02_Met a.1 a.2,.pure,false⟩
theorem c123_ok:ConOK tab 123 c123:=Oc tab_123 rfl whileL [(150,c150)] ⟨c150_ok,trivial⟩ fun a=>by kernel_rfl
def ref02_Failure (p0:Int×Int×Int) (p1:Int×Int×Int) (p2:Int×Int):Option ((Int×Int)×Bool):=
 (ref02_Leads p1 p0 p2).bind fun b0=>
 bif b0 then
  some (p2,true)
 else
  bif decide (p0.2.2<p1.2.2) then
   (ref02_Met p0 p1).bind fun a1=>
   some (a1,true)
  else
   some ((0,0),false)
def c87:Con:=⟨Args.cons (Arg.agg (Cod.row kiii)) (Args.cons (Arg.agg (Cod.row kiii)) (Args.one (Arg.agg (Cod.row kii)))),Arg.tup (Args.cons (Arg.agg (Cod.row kii)) (Args.one Arg.bool)),fun a=>ref02_Failure a.1 a.2.1 a.2.2,.pure,false⟩
theorem c87_ok:ConOK tab 87 c87:=Oc tab_87 rfl whileL [(122,c122),(123,c123)] ⟨c122_ok,c123_ok,trivial⟩ fun a=>by kernel_rfl
def ref09_When (p0:Field) (p1:Int×Int) (p2:Int×Int):Option ((Int×Int)×Bool):=
 (ref03_At p0 p1.2).bind fun n0=>
 (geti p0.points n0).bind fun a1=>
 (ref03_At p0 p1.1).bind fun n2=>
 (geti p0.points n2).bind fun a3=>
 (ref02_Failure a1 a3 p2).bind fun a4=>
 some a4
def c52:Con:=⟨Args.cons (Arg.agg Field_c) (Args.cons (Arg.agg (Cod.row kii)) (Args.one (Arg.agg (Cod.row kii)))),Arg.tup (Args.cons (Arg.agg (Cod.row kii)) (Args.one Arg.bool)),fun a=>ref09_When a.1 a.2.1 a.2.2,.pure,false⟩
theorem c52_ok:ConOK tab 52 c52:=Oc tab_52 rfl whileL [(57,c57),(87,c87)] ⟨c57_ok,c87_ok,trivial⟩ fun a=>by kernel_rfl
def ref07_Find (p0:Agenda) (p1:Int×Int):Option ((Int×Int×Int×Int×Int)×Int):=
 (ref07_Check p0).bind fun n0=>
 bif n0 !=0 then
  some ((0,0,0,0,0),8)
 else
  (ref06_Live p0.slots p1).bind fun b1=>
  bif !b1 then
   some ((0,0,0,0,0),6)
  else
   (geti p0.where_ p1.1).bind fun n2=>
   (geti p0.heap n2).bind fun a3=>
   some (a3,0)
def c53:Con:=⟨Args.cons (Arg.agg Agenda_c) (Args.one (Arg.agg (Cod.row kii))),Arg.tup (Args.cons (Arg.agg (Cod.row kiiiii)) (Args.one (Arg.int .i64))),fun a=>ref07_Find a.1 a.2,.pure,false⟩
theorem c53_ok:ConOK tab 53 c53:=Oc tab_53 rfl whileL [(51,c51),(88,c88)] ⟨c51_ok,c88_ok,trivial⟩ fun a=>by kernel_rfl
def ref09_Check_l1 (s:(Int×Int×Int×Int×(List (Int×Int×Int))×Int×(List (Int×Int×Int))×(List Int)×(List Bool)×(List Int)×(List (Int×Int×Int×Int×Int))×(List Int)×(List (Int×Int×Int)))):Option (Step (Int×Int×Int×Int×(List (Int×Int×Int))×Int×(List (Int×Int×Int))×(List Int)×(List Bool)×(List Int)×(List (Int×Int×Int×Int×Int))×(List Int)×(List (Int×Int×Int))) Int):=
 bif decide (s.2.1<(Int.ofNat s.2.2.2.2.2.2.1.length)) then
  (geti s.2.2.2.2.2.2.1 s.2.1).bind fun a0=>
  (ref09_When (Field.mk s.2.2.2.2.1) a0.2 (s.2.2.1,s.2.2.2.1)).bind fun a1=>
  bif !a1.2 then
   some (.next (s.1,wrapF .i64 (s.2.1+1),s.2.2))
  else
   bif decide ((Int.ofNat s.2.2.2.2.2.2.2.2.2.2.2.2.length)<=s.1) then
    some (.done 8)
   else
    (geti s.2.2.2.2.2.2.2.2.2.2.2.2 s.1).bind fun a2=>
    bif a2.1 !=a0.1 then
     some (.done 8)
    else
     (geti s.2.2.2.2.2.2.2.2.2.2.2.2 s.1).bind fun a3=>
     (ref07_Find (Agenda.mk (Slots.mk s.2.2.2.2.2.2.2.1 s.2.2.2.2.2.2.2.2.1 s.2.2.2.2.2.2.2.2.2.1) s.2.2.2.2.2.2.2.2.2.2.1 s.2.2.2.2.2.2.2.2.2.2.2.1) a3.2).bind fun a4=>
     bif a4.2 !=0 then
      some (.done 8)
     else
      bif a4.1.2.2.1 !=a0.1 then
       some (.done 8)
      else
       bif !((a4.1.1==a1.1.1)&&(a4.1.2.1==a1.1.2)) then
        some (.done 8)
       else
        some (.next (wrapF .i64 (s.1+1),wrapF .i64 (s.2.1+1),s.2.2))
 else
  bif s.1 !=(Int.ofNat s.2.2.2.2.2.2.2.2.2.2.2.2.length) then
   some (.done 8)
  else
   some (.done 0)
def ref09_Check (p0:Clock):Option Int:=
 (ref01_Check p0.now).bind fun n0=>
 bif n0 !=0 then
  some 8
 else
  (ref03_Check p0.field).bind fun n1=>
  bif n1 !=0 then
   some 8
  else
   (ref08_Check p0.certs).bind fun n2=>
   bif n2 !=0 then
    some 8
   else
    (ref08_Known p0.certs p0.field).bind fun b3=>
    bif !b3 then
     some 8
    else
     (ref07_Check p0.agenda).bind fun n4=>
     bif n4 !=0 then
      some 8
     else
      bif (Int.ofNat p0.agenda.where_.length) !=200 then
       some 8
      else
       bif (Int.ofNat p0.agenda.heap.length) !=(Int.ofNat p0.due.length) then
        some 8
       else
        whileO ref09_Check_l1 (0,0,p0.now.1,p0.now.2,p0.field.points,p0.certs.next_,p0.certs.list,p0.agenda.slots.uses,p0.agenda.slots.used,p0.agenda.slots.free,p0.agenda.heap,p0.agenda.where_,p0.due)
def c20:Con:=⟨Args.one (Arg.agg Clock_c),Arg.int .i64,fun a=>ref09_Check a,.pure,false⟩
theorem c20_ok:ConOK tab 20 c20:=Oc tab_20 rfl whileL [(48,c48),(21,c21),(49,c49),(50,c50),(51,c51),(52,c52),(53,c53)] ⟨c48_ok,c21_ok,c49_ok,c50_ok,c51_ok,c52_ok,c53_ok,trivial⟩ fun a=>by kernel_rfl
def ref13_In_l1 (s:((List (Int×Int))×Int×Int×Int)):Option (Step ((List (Int×Int))×Int×Int×Int) Bool):=
 bif decide (s.2.1<(Int.ofNat s.1.length)) then
  (geti s.1 s.2.1).bind fun a0=>
  bif (a0.1==s.2.2.1)&&(a0.2==s.2.2.2) then
   some (.done true)
  else
   some (.next (s.1,wrapF .i64 (s.2.1+1),s.2.2))
 else
  some (.done false)
def ref13_In (p0:List (Int×Int)) (p1:Int×Int):Option Bool:=
 whileO ref13_In_l1 (p0,0,p1)
def c56:Con:=⟨Args.cons (Arg.sl kii) (Args.one (Arg.agg (Cod.row kii))),Arg.bool,fun a=>ref13_In a.1 a.2,.pure,false⟩
theorem c56_ok:ConOK tab 56 c56:=Oc tab_56 rfl whileL [] trivial fun a=>by kernel_rfl
def ref13_Edged_l1 (s:((List (Int×Int))×Int×(List (Int×Int×Int)))):Option (Step ((List (Int×Int))×Int×(List (Int×Int×Int))) (Step ((List (Int×Int))×Int×(List (Int×Int×Int))) (Step ((List (Int×Int))×Int×(List (Int×Int×Int))) Int))):=
 bif decide (s.2.1<(Int.ofNat s.1.length)) then
  (geti s.1 s.2.1).bind fun a0=>
  (ref03_At (Field.mk s.2.2) a0.1).bind fun n1=>
  bif decide (n1<0) then
   some (.done (.done (.done 6)))
  else
   (geti s.1 s.2.1).bind fun a2=>
   (ref03_At (Field.mk s.2.2) a2.2).bind fun n3=>
   bif decide (n3<0) then
    some (.done (.done (.done 6)))
   else
    some (.next (s.1,wrapF .i64 (s.2.1+1),s.2.2))
 else
  some (.done (.done (.done 0)))
def ref13_Edged_l2 (s:((List (Int×Int))×Int×(List (Int×Int×Int)))):Option (Step ((List (Int×Int))×Int×(List (Int×Int×Int))) (Step ((List (Int×Int))×Int×(List (Int×Int×Int))) Int)):=
 bif decide (s.2.1<(Int.ofNat s.1.length)) then
  (sliceO s.1 0 s.2.1).bind fun l0=>
  (geti s.1 s.2.1).bind fun a1=>
  (ref13_In l0 a1).bind fun b2=>
  bif b2 then
   some (.done (.done 14))
  else
   some (.next (s.1,wrapF .i64 (s.2.1+1),s.2.2))
 else
  whileO ref13_Edged_l1 (s.1,0,s.2.2)
def ref13_Edged_l3 (s:((List (Int×Int))×Int×(List (Int×Int×Int)))):Option (Step ((List (Int×Int))×Int×(List (Int×Int×Int))) Int):=
 bif decide (s.2.1<(Int.ofNat s.1.length)) then
  (geti s.1 s.2.1).bind fun a0=>
  (ref08_Cert a0).bind fun b1=>
  bif !b1 then
   some (.done 8)
  else
   some (.next (s.1,wrapF .i64 (s.2.1+1),s.2.2))
 else
  whileO ref13_Edged_l2 (s.1,0,s.2.2)
def ref13_Edged (p0:Field) (p1:List (Int×Int)):Option Int:=
 whileO ref13_Edged_l3 (p1,0,p0.points)
def c22:Con:=⟨Args.cons (Arg.agg Field_c) (Args.one (Arg.sl kii)),Arg.int .i64,fun a=>ref13_Edged a.1 a.2,.pure,false⟩
theorem c22_ok:ConOK tab 22 c22:=Oc tab_22 rfl whileL [(55,c55),(56,c56),(57,c57)] ⟨c55_ok,c56_ok,c57_ok,trivial⟩ fun a=>by kernel_rfl
def ref08_Without_l1 (s:(Int×Int×Int×(List (Int×Int×Int))×Int×Int×(List (Int×Int×Int)))):Option (Step (Int×Int×Int×(List (Int×Int×Int))×Int×Int×(List (Int×Int×Int))) Certs):=
 bif decide (s.2.1<(Int.ofNat s.2.2.2.1.length)) then
  (geti s.2.2.2.1 s.2.1).bind fun a0=>
  bif a0.1 !=s.1 then
   (geti s.2.2.2.1 s.2.1).bind fun a1=>
   (appendO s.2.2.2.2.2.2 [a1]).bind fun l2=>
   some (.next (s.1,wrapF .i64 (s.2.1+1),s.2.2.1,s.2.2.2.1,s.2.2.2.2.1,s.2.2.2.2.2.1,l2))
  else
   some (.next (s.1,wrapF .i64 (s.2.1+1),s.2.2))
 else
  some (.done (Certs.mk s.2.2.2.2.2.1 s.2.2.2.2.2.2))
def ref08_Without (p0:Certs) (p1:Int):Option Certs:=
 whileO ref08_Without_l1 (p1,0,p0.next_,p0.list,0,p0.next_,[])
def c89:Con:=⟨Args.cons (Arg.agg Certs_c) (Args.one (Arg.int .i64)),Arg.agg Certs_c,fun a=>ref08_Without a.1 a.2,.frz,false⟩
theorem c89_ok:ConOK tab 89 c89:=Oc tab_89 rfl whileL [] trivial fun a=>by kernel_rfl
def ref09_DueAt_l1 (s:(Int×Int×Int×Int×(List (Int×Int×Int))×Int×(List (Int×Int×Int))×(List Int)×(List Bool)×(List Int)×(List (Int×Int×Int×Int×Int))×(List Int)×(List (Int×Int×Int)))):Option (Step (Int×Int×Int×Int×(List (Int×Int×Int))×Int×(List (Int×Int×Int))×(List Int)×(List Bool)×(List Int)×(List (Int×Int×Int×Int×Int))×(List Int)×(List (Int×Int×Int))) Int):=
 bif decide (s.2.1<(Int.ofNat s.2.2.2.2.2.2.2.2.2.2.2.2.length)) then
  (geti s.2.2.2.2.2.2.2.2.2.2.2.2 s.2.1).bind fun a0=>
  bif a0.1==s.1 then
   some (.done s.2.1)
  else
   some (.next (s.1,wrapF .i64 (s.2.1+1),s.2.2))
 else
  some (.done (-1))
def ref09_DueAt (p0:Clock) (p1:Int):Option Int:=
 whileO ref09_DueAt_l1 (p1,0,p0.now.1,p0.now.2,p0.field.points,p0.certs.next_,p0.certs.list,p0.agenda.slots.uses,p0.agenda.slots.used,p0.agenda.slots.free,p0.agenda.heap,p0.agenda.where_,p0.due)
def c90:Con:=⟨Args.cons (Arg.agg Clock_c) (Args.one (Arg.int .i64)),Arg.int .i64,fun a=>ref09_DueAt a.1 a.2,.pure,false⟩
theorem c90_ok:ConOK tab 90 c90:=Oc tab_90 rfl whileL [] trivial fun a=>by kernel_rfl
def ref06_Given (p0:Slots) (p1:Int×Int):Option Slots:=
 (ref06_Twin p0).bind fun r0=>
 (geti r0.used p1.1).bind fun _=>
 (appendO r0.free [p1.1]).bind fun l2=>
 some (Slots.mk r0.uses (seti r0.used p1.1 false) l2)
def c125:Con:=⟨Args.cons (Arg.agg Slots_c) (Args.one (Arg.agg (Cod.row kii))),Arg.agg Slots_c,fun a=>ref06_Given a.1 a.2,.frz,false⟩
theorem c125_ok:ConOK tab 125 c125:=Oc tab_125 rfl whileL [(28,c28),(28,c28p)] ⟨c28_ok,c28p_ok,trivial⟩ fun a=>by kernel_rfl
def ref07_swap_w9392 (a:(Int×Int×(List Int)×(List Bool)×(List Int)×(List (Int×Int×Int×Int×Int))×(List Int))):Option ((List Int)×(List Bool)×(List Int)×(List (Int×Int×Int×Int×Int))×(List Int)):=
 (geti a.2.2.2.2.2.1 a.2.1).bind fun a0=>
 (geti a.2.2.2.2.2.1 a.1).bind fun a1=>
 (geti a.2.2.2.2.2.1 a.1).bind fun _=>
 (geti (seti a.2.2.2.2.2.1 a.1 a0) a.2.1).bind fun _=>
 (geti (seti (seti a.2.2.2.2.2.1 a.1 a0) a.2.1 a1) a.1).bind fun a4=>
 (geti (seti (seti a.2.2.2.2.2.1 a.1 a0) a.2.1 a1) a.2.1).bind fun a5=>
 (geti a.2.2.2.2.2.2 a4.2.2.2.1).bind fun _=>
 (geti (seti a.2.2.2.2.2.2 a4.2.2.2.1 a.1) a5.2.2.2.1).bind fun _=>
 bif a.2.2.1.length==a.2.2.1.length then
  bif a.2.2.2.1.length==a.2.2.2.1.length then
   bif a.2.2.2.2.1.length==a.2.2.2.2.1.length then
    bif ((seti (seti a.2.2.2.2.2.1 a.1 a0) a.2.1 a1).length)==a.2.2.2.2.2.1.length then
     bif ((seti (seti a.2.2.2.2.2.2 a4.2.2.2.1 a.1) a5.2.2.2.1 a.2.1).length)==a.2.2.2.2.2.2.length then
      some (a.2.2.1,a.2.2.2.1,a.2.2.2.2.1,seti (seti a.2.2.2.2.2.1 a.1 a0) a.2.1 a1,seti (seti a.2.2.2.2.2.2 a4.2.2.2.1 a.1) a5.2.2.2.1 a.2.1)
     else
      none
    else
     none
   else
    none
  else
   none
 else
  none
def f124_0:FpCon:=⟨[.i,.i,.l [.i .i64],.l [.b],.l [.i .i64],.l [.i .i64,.i .i64,.i .i64,.i .i64,.i .i64],.l [.i .i64]],[.agg [.own 0 false,.own 1 false,.own 2 false,.own 3 false,.own 4 false],.int .i64 0,.int .i64 0],[.arr [.i .i64] [],.arr [.b] [],.arr [.i .i64] [],.arr [.i .i64,.i .i64,.i .i64,.i .i64,.i .i64] [],.arr [.i .i64] []],[.l [.i .i64],.l [.b],.l [.i .i64],.l [.i .i64,.i .i64,.i .i64,.i .i64,.i .i64],.l [.i .i64]],.tup [],[.arr [.i .i64] [],.arr [.b] [],.arr [.i .i64] [],.arr [.i .i64,.i .i64,.i .i64,.i .i64,.i .i64] [],.arr [.i .i64] []],fun a=>ref07_swap_w9392 a⟩
theorem f124_0_ok:FpOK tab 124 f124_0:=FpOK.of tab_124 (wd:=false) (cx:=(mkCx whileL [] [] [] [])) (CxOK.make trivial trivial trivial) (fun a=>by kernel_rfl)
def ref07_swap_w8585 (a:((List Int)×(List Bool)×(List Int)×Nat×Nat×Int×Int×(List (Int×Int×Int×Int×Int))×(List Int))):Option ((List (Int×Int×Int×Int×Int))×(List Int)):=
 (geti (a.2.2.2.2.2.2.2.1.take a.2.2.2.1) a.2.2.2.2.2.2.1).bind fun a0=>
 (geti (a.2.2.2.2.2.2.2.1.take a.2.2.2.1) a.2.2.2.2.2.1).bind fun a1=>
 (geti (a.2.2.2.2.2.2.2.1.take a.2.2.2.1) a.2.2.2.2.2.1).bind fun _=>
 (geti ((seti a.2.2.2.2.2.2.2.1 a.2.2.2.2.2.1 a0).take a.2.2.2.1) a.2.2.2.2.2.2.1).bind fun _=>
 (geti ((seti (seti a.2.2.2.2.2.2.2.1 a.2.2.2.2.2.1 a0) a.2.2.2.2.2.2.1 a1).take a.2.2.2.1) a.2.2.2.2.2.1).bind fun a4=>
 (geti ((seti (seti a.2.2.2.2.2.2.2.1 a.2.2.2.2.2.1 a0) a.2.2.2.2.2.2.1 a1).take a.2.2.2.1) a.2.2.2.2.2.2.1).bind fun a5=>
 (geti a.2.2.2.2.2.2.2.2 a4.2.2.2.1).bind fun _=>
 (geti (seti a.2.2.2.2.2.2.2.2 a4.2.2.2.1 a.2.2.2.2.2.1) a5.2.2.2.1).bind fun _=>
 bif ((seti (seti a.2.2.2.2.2.2.2.1 a.2.2.2.2.2.1 a0) a.2.2.2.2.2.2.1 a1).length)==a.2.2.2.2.2.2.2.1.length then
  bif ((seti (seti a.2.2.2.2.2.2.2.2 a4.2.2.2.1 a.2.2.2.2.2.1) a5.2.2.2.1 a.2.2.2.2.2.2.1).length)==a.2.2.2.2.2.2.2.2.length then
   some (seti (seti a.2.2.2.2.2.2.2.1 a.2.2.2.2.2.1 a0) a.2.2.2.2.2.2.1 a1,seti (seti a.2.2.2.2.2.2.2.2 a4.2.2.2.1 a.2.2.2.2.2.1) a5.2.2.2.1 a.2.2.2.2.2.2.1)
  else
   none
 else
  none
def f124_1:FpCon:=⟨[.l [.i .i64],.l [.b],.l [.i .i64],.n,.n,.i,.i,.l [.i .i64,.i .i64,.i .i64,.i .i64,.i .i64],.l [.i .i64]],[.agg [.sl [.i .i64] [],.sl [.b] [],.sl [.i .i64] [],.pre 0 0 0 false,.own 1 false],.int .i64 0,.int .i64 0],[.arr [.i .i64,.i .i64,.i .i64,.i .i64,.i .i64] [],.arr [.i .i64] []],[.l [.i .i64,.i .i64,.i .i64,.i .i64,.i .i64],.l [.i .i64]],.tup [],[.arr [.i .i64,.i .i64,.i .i64,.i .i64,.i .i64] [],.arr [.i .i64] []],fun a=>ref07_swap_w8585 a⟩
theorem f124_1_ok:FpOK tab 124 f124_1:=FpOK.of tab_124 (wd:=false) (cx:=(mkCx whileL [] [] [] [])) (CxOK.make trivial trivial trivial) (fun a=>by kernel_rfl)
def ref07_up_w3571_l1 (c0:((List Int)×(List Bool)×(List Int)×Nat×Nat×Int×(List (Int×Int×Int×Int×Int))×(List Int))) (s:(Int×(List (Int×Int×Int×Int×Int))×(List Int)×(List Int)×(List Bool)×(List Int)×Nat×Nat)):Option (Step (Int×(List (Int×Int×Int×Int×Int))×(List Int)×(List Int)×(List Bool)×(List Int)×Nat×Nat) (Int×(List (Int×Int×Int×Int×Int))×(List Int))):=
 bif decide (0<s.1) then
  (geti (s.2.1.take s.2.2.2.2.2.2.1) s.1).bind fun a0=>
  (geti (s.2.1.take s.2.2.2.2.2.2.1) (wrapF .i64 (Int.tdiv (wrapF .i64 (s.1-1)) 2))).bind fun a1=>
  (ref07_Less a0 a1).bind fun b2=>
  bif b2 then
   (ref07_swap_w8585 (s.2.2.2.1,s.2.2.2.2.1,s.2.2.2.2.2.1,s.2.2.2.2.2.2.1,s.2.2.2.2.2.2.2,s.1,wrapF .i64 (Int.tdiv (wrapF .i64 (s.1-1)) 2),s.2.1,s.2.2.1)).bind fun a3=>
   some (.next (wrapF .i64 (Int.tdiv (wrapF .i64 (s.1-1)) 2),a3.1,a3.2,s.2.2.2))
  else
   bif s.2.1.length==c0.2.2.2.2.2.2.1.length then
    bif s.2.2.1.length==c0.2.2.2.2.2.2.2.length then
     some (.done (s.1,s.2.1,s.2.2.1))
    else
     none
   else
    none
 else
  bif s.2.1.length==c0.2.2.2.2.2.2.1.length then
   bif s.2.2.1.length==c0.2.2.2.2.2.2.2.length then
    some (.done (s.1,s.2.1,s.2.2.1))
   else
    none
  else
   none
def ref07_up_w3571 (a:((List Int)×(List Bool)×(List Int)×Nat×Nat×Int×(List (Int×Int×Int×Int×Int))×(List Int))):Option (Int×(List (Int×Int×Int×Int×Int))×(List Int)):=
 whileO (ref07_up_w3571_l1 a) (a.2.2.2.2.2.1,a.2.2.2.2.2.2.1,a.2.2.2.2.2.2.2,a.1,a.2.1,a.2.2.1,a.2.2.2.1,a.2.2.2.2.1)
def f127_0:FpCon:=⟨[.l [.i .i64],.l [.b],.l [.i .i64],.n,.n,.i,.l [.i .i64,.i .i64,.i .i64,.i .i64,.i .i64],.l [.i .i64]],[.agg [.sl [.i .i64] [],.sl [.b] [],.sl [.i .i64] [],.pre 0 0 0 false,.own 1 false],.int .i64 0],[.arr [.i .i64,.i .i64,.i .i64,.i .i64,.i .i64] [],.arr [.i .i64] []],[.i,.l [.i .i64,.i .i64,.i .i64,.i .i64,.i .i64],.l [.i .i64]],.int .i64 0,[.arr [.i .i64,.i .i64,.i .i64,.i .i64,.i .i64] [],.arr [.i .i64] []],fun a=>ref07_up_w3571 a⟩
theorem f127_0_ok:FpOK tab 127 f127_0:=FpOK.of tab_127 (wd:=true) (cx:=(mkCx whileL [(86,c86)] [(124,f124_0),(124,f124_1)] [] [])) (CxOK.make ⟨c86_ok,trivial⟩ ⟨f124_0_ok,f124_1_ok,trivial⟩ trivial) (fun a=>by kernel_rfl)
def ref07_down_w3571_l1 (c0:((List Int)×(List Bool)×(List Int)×Nat×Nat×Int×(List (Int×Int×Int×Int×Int))×(List Int))) (s:(Int×(List (Int×Int×Int×Int×Int))×(List Int)×(List Int)×(List Bool)×(List Int)×Nat×Nat)):Option (Step (Int×(List (Int×Int×Int×Int×Int))×(List Int)×(List Int)×(List Bool)×(List Int)×Nat×Nat) ((List (Int×Int×Int×Int×Int))×(List Int))):=
 bif decide ((Int.ofNat s.2.2.2.2.2.2.1)<=(wrapF .i64 ((wrapF .i64 (2*s.1))+1))) then
  bif s.2.1.length==c0.2.2.2.2.2.2.1.length then
   bif s.2.2.1.length==c0.2.2.2.2.2.2.2.length then
    some (.done (s.2.1,s.2.2.1))
   else
    none
  else
   none
 else
  bif decide ((wrapF .i64 ((wrapF .i64 ((wrapF .i64 (2*s.1))+1))+1))<(Int.ofNat s.2.2.2.2.2.2.1)) then
   (geti (s.2.1.take s.2.2.2.2.2.2.1) (wrapF .i64 ((wrapF .i64 ((wrapF .i64 (2*s.1))+1))+1))).bind fun a0=>
   (geti (s.2.1.take s.2.2.2.2.2.2.1) (wrapF .i64 ((wrapF .i64 (2*s.1))+1))).bind fun a1=>
   (ref07_Less a0 a1).bind fun b2=>
   bif b2 then
    (geti (s.2.1.take s.2.2.2.2.2.2.1) (wrapF .i64 ((wrapF .i64 ((wrapF .i64 (2*s.1))+1))+1))).bind fun a3=>
    (geti (s.2.1.take s.2.2.2.2.2.2.1) s.1).bind fun a4=>
    (ref07_Less a3 a4).bind fun b5=>
    bif !b5 then
     bif s.2.1.length==c0.2.2.2.2.2.2.1.length then
      bif s.2.2.1.length==c0.2.2.2.2.2.2.2.length then
       some (.done (s.2.1,s.2.2.1))
      else
       none
     else
      none
    else
     (ref07_swap_w8585 (s.2.2.2.1,s.2.2.2.2.1,s.2.2.2.2.2.1,s.2.2.2.2.2.2.1,s.2.2.2.2.2.2.2,s.1,wrapF .i64 ((wrapF .i64 ((wrapF .i64 (2*s.1))+1))+1),s.2.1,s.2.2.1)).bind fun a6=>
     some (.next (wrapF .i64 ((wrapF .i64 ((wrapF .i64 (2*s.1))+1))+1),a6.1,a6.2,s.2.2.2))
   else
    (geti (s.2.1.take s.2.2.2.2.2.2.1) (wrapF .i64 ((wrapF .i64 (2*s.1))+1))).bind fun a7=>
    (geti (s.2.1.take s.2.2.2.2.2.2.1) s.1).bind fun a8=>
    (ref07_Less a7 a8).bind fun b9=>
    bif !b9 then
     bif s.2.1.length==c0.2.2.2.2.2.2.1.length then
      bif s.2.2.1.length==c0.2.2.2.2.2.2.2.length then
       some (.done (s.2.1,s.2.2.1))
      else
       none
     else
      none
    else
     (ref07_swap_w8585 (s.2.2.2.1,s.2.2.2.2.1,s.2.2.2.2.2.1,s.2.2.2.2.2.2.1,s.2.2.2.2.2.2.2,s.1,wrapF .i64 ((wrapF .i64 (2*s.1))+1),s.2.1,s.2.2.1)).bind fun a10=>
     some (.next (wrapF .i64 ((wrapF .i64 (2*s.1))+1),a10.1,a10.2,s.2.2.2))
  else
   (geti (s.2.1.take s.2.2.2.2.2.2.1) (wrapF .i64 ((wrapF .i64 (2*s.1))+1))).bind fun a11=>
   (geti (s.2.1.take s.2.2.2.2.2.2.1) s.1).bind fun a12=>
   (ref07_Less a11 a12).bind fun b13=>
   bif !b13 then
    bif s.2.1.length==c0.2.2.2.2.2.2.1.length then
     bif s.2.2.1.length==c0.2.2.2.2.2.2.2.length then
      some (.done (s.2.1,s.2.2.1))
     else
      none
    else
     none
   else
    (ref07_swap_w8585 (s.2.2.2.1,s.2.2.2.2.1,s.2.2.2.2.2.1,s.2.2.2.2.2.2.1,s.2.2.2.2.2.2.2,s.1,wrapF .i64 ((wrapF .i64 (2*s.1))+1),s.2.1,s.2.2.1)).bind fun a14=>
    some (.next (wrapF .i64 ((wrapF .i64 (2*s.1))+1),a14.1,a14.2,s.2.2.2))
def ref07_down_w3571 (a:((List Int)×(List Bool)×(List Int)×Nat×Nat×Int×(List (Int×Int×Int×Int×Int))×(List Int))):Option ((List (Int×Int×Int×Int×Int))×(List Int)):=
 whileO (ref07_down_w3571_l1 a) (a.2.2.2.2.2.1,a.2.2.2.2.2.2.1,a.2.2.2.2.2.2.2,a.1,a.2.1,a.2.2.1,a.2.2.2.1,a.2.2.2.2.1)
def f126_0:FpCon:=⟨[.l [.i .i64],.l [.b],.l [.i .i64],.n,.n,.i,.l [.i .i64,.i .i64,.i .i64,.i .i64,.i .i64],.l [.i .i64]],[.agg [.sl [.i .i64] [],.sl [.b] [],.sl [.i .i64] [],.pre 0 0 0 false,.own 1 false],.int .i64 0],[.arr [.i .i64,.i .i64,.i .i64,.i .i64,.i .i64] [],.arr [.i .i64] []],[.l [.i .i64,.i .i64,.i .i64,.i .i64,.i .i64],.l [.i .i64]],.tup [],[.arr [.i .i64,.i .i64,.i .i64,.i .i64,.i .i64] [],.arr [.i .i64] []],fun a=>ref07_down_w3571 a⟩
theorem f126_0_ok:FpOK tab 126 f126_0:=FpOK.of tab_126 (wd:=false) (cx:=(mkCx whileL [(86,c86)] [(124,f124_0),(124,f124_1)] [] [])) (CxOK.make ⟨c86_ok,trivial⟩ ⟨f124_0_ok,f124_1_ok,trivial⟩ trivial) (fun a=>by kernel_rfl)
def ref07_Removed (p0:Agenda) (p1:Int×Int):Option Agenda:=
 (ref07_Twin p0).bind fun r0=>
 (geti r0.where_ p1.1).bind fun n1=>
 bif n1 !=(wrapF .i64 ((Int.ofNat r0.heap.length) -1)) then
  (ref07_swap_w9392 (n1,wrapF .i64 ((Int.ofNat r0.heap.length) -1),r0.slots.uses,r0.slots.used,r0.slots.free,r0.heap,r0.where_)).bind fun a2=>
  (sliceO a2.2.2.2.1 0 (wrapF .i64 ((Int.ofNat r0.heap.length) -1))).bind fun _=>
  (geti a2.2.2.2.2 p1.1).bind fun _=>
  (ref06_Given (Slots.mk a2.1 a2.2.1 a2.2.2.1) p1).bind fun r5=>
  bif n1 !=(wrapF .i64 ((Int.ofNat r0.heap.length) -1)) then
   (ref07_up_w3571 (r5.uses,r5.used,r5.free,(wrapF .i64 ((Int.ofNat r0.heap.length) -1)).toNat,a2.2.2.2.1.length,n1,a2.2.2.2.1,seti a2.2.2.2.2 p1.1 (-1))).bind fun a6=>
   (ref07_down_w3571 (r5.uses,r5.used,r5.free,(wrapF .i64 ((Int.ofNat r0.heap.length) -1)).toNat,a2.2.2.2.1.length,a6)).bind fun a7=>
   some (Agenda.mk r5 (a7.1.take ((wrapF .i64 ((Int.ofNat r0.heap.length) -1)).toNat)) a7.2)
  else
   some (Agenda.mk r5 (a2.2.2.2.1.take ((wrapF .i64 ((Int.ofNat r0.heap.length) -1)).toNat)) (seti a2.2.2.2.2 p1.1 (-1)))
 else
  (sliceO r0.heap 0 (wrapF .i64 ((Int.ofNat r0.heap.length) -1))).bind fun _=>
  (geti r0.where_ p1.1).bind fun _=>
  (ref06_Given r0.slots p1).bind fun r10=>
  bif n1 !=(wrapF .i64 ((Int.ofNat r0.heap.length) -1)) then
   (ref07_up_w3571 (r10.uses,r10.used,r10.free,(wrapF .i64 ((Int.ofNat r0.heap.length) -1)).toNat,r0.heap.length,n1,r0.heap,seti r0.where_ p1.1 (-1))).bind fun a11=>
   (ref07_down_w3571 (r10.uses,r10.used,r10.free,(wrapF .i64 ((Int.ofNat r0.heap.length) -1)).toNat,r0.heap.length,a11)).bind fun a12=>
   some (Agenda.mk r10 (a12.1.take ((wrapF .i64 ((Int.ofNat r0.heap.length) -1)).toNat)) a12.2)
  else
   some (Agenda.mk r10 (r0.heap.take ((wrapF .i64 ((Int.ofNat r0.heap.length) -1)).toNat)) (seti r0.where_ p1.1 (-1)))
def c91:Con:=⟨Args.cons (Arg.agg Agenda_c) (Args.one (Arg.agg (Cod.row kii))),Arg.agg Agenda_c,fun a=>ref07_Removed a.1 a.2,.frz,false⟩
theorem c91_ok:ConOK tab 91 c91:=ConOK.of tab_91 (cx:=(mkCx whileL [(13,c13),(13,c13p),(125,c125)] [(124,f124_0),(124,f124_1),(127,f127_0),(126,f126_0)] [] [])) rfl (CxOK.make ⟨c13_ok,c13p_ok,c125_ok,trivial⟩ ⟨f124_0_ok,f124_1_ok,f127_0_ok,f126_0_ok,trivial⟩ trivial) (fun a=>by kernel_rfl)
def ref09_Gone (p0:Clock) (p1:Int):Option Clock:=
 (ref09_Twin p0).bind fun r0=>
 (ref08_Without p0.certs p1).bind fun r1=>
 (ref09_DueAt p0 p1).bind fun n2=>
 bif decide (0<=n2) then
  (geti p0.due n2).bind fun a3=>
  (ref07_Removed p0.agenda a3.2).bind fun r4=>
  (sliceO p0.due 0 n2).bind fun l5=>
  (cloneO l5).bind fun l6=>
  (sliceO p0.due (wrapF .i64 (n2+1)) (Int.ofNat p0.due.length)).bind fun l7=>
  bif l7.isEmpty then
   some (Clock.mk r0.now r0.field r1 r4 l6)
  else
   (appendO l6 l7).bind fun l8=>
   some (Clock.mk r0.now r0.field r1 r4 l8)
 else
  some (Clock.mk r0.now r0.field r1 r0.agenda r0.due)
def c58:Con:=⟨Args.cons (Arg.agg Clock_c) (Args.one (Arg.int .i64)),Arg.agg Clock_c,fun a=>ref09_Gone a.1 a.2,.frz,false⟩
theorem c58_ok:ConOK tab 58 c58:=Oc tab_58 rfl whileL [(6,c6),(6,c6p),(89,c89),(90,c90),(91,c91)] ⟨c6_ok,c6p_ok,c89_ok,c90_ok,c91_ok,trivial⟩ fun a=>by kernel_rfl
def ref03_Same_l1 (s:(Int×(List (Int×Int×Int))×(List (Int×Int×Int)))):Option (Step (Int×(List (Int×Int×Int))×(List (Int×Int×Int))) Bool):=
 bif decide (s.1<(Int.ofNat s.2.1.length)) then
  (geti s.2.1 s.1).bind fun a0=>
  (geti s.2.2 s.1).bind fun a1=>
  bif !((a0.1==a1.1)&&((a0.2.1==a1.2.1)&&(a0.2.2==a1.2.2))) then
   some (.done false)
  else
   some (.next (wrapF .i64 (s.1+1),s.2))
 else
  some (.done true)
def ref03_Same (p0:Field) (p1:Field):Option Bool:=
 bif (Int.ofNat p0.points.length) !=(Int.ofNat p1.points.length) then
  some false
 else
  whileO ref03_Same_l1 (0,p0.points,p1.points)
def c24:Con:=⟨Args.cons (Arg.agg Field_c) (Args.one (Arg.agg Field_c)),Arg.bool,fun a=>ref03_Same a.1 a.2,.pure,false⟩
theorem c24_ok:ConOK tab 24 c24:=Oc tab_24 rfl whileL [] trivial fun a=>by kernel_rfl
def ref07_up_w8962_l1 (c0:(Int×(List Int)×(List Bool)×(List Int)×(List (Int×Int×Int×Int×Int))×(List Int))) (s:(Int×(List Int)×(List Bool)×(List Int)×(List (Int×Int×Int×Int×Int))×(List Int))):Option (Step (Int×(List Int)×(List Bool)×(List Int)×(List (Int×Int×Int×Int×Int))×(List Int)) (Int×(List Int)×(List Bool)×(List Int)×(List (Int×Int×Int×Int×Int))×(List Int))):=
 bif decide (0<s.1) then
  (geti s.2.2.2.2.1 s.1).bind fun a0=>
  (geti s.2.2.2.2.1 (wrapF .i64 (Int.tdiv (wrapF .i64 (s.1-1)) 2))).bind fun a1=>
  (ref07_Less a0 a1).bind fun b2=>
  bif b2 then
   (ref07_swap_w9392 (s.1,wrapF .i64 (Int.tdiv (wrapF .i64 (s.1-1)) 2),s.2)).bind fun a3=>
   some (.next (wrapF .i64 (Int.tdiv (wrapF .i64 (s.1-1)) 2),a3))
  else
   bif s.2.1.length==c0.2.1.length then
    bif s.2.2.1.length==c0.2.2.1.length then
     bif s.2.2.2.1.length==c0.2.2.2.1.length then
      bif s.2.2.2.2.1.length==c0.2.2.2.2.1.length then
       bif s.2.2.2.2.2.length==c0.2.2.2.2.2.length then
        some (.done s)
       else
        none
      else
       none
     else
      none
    else
     none
   else
    none
 else
  bif s.2.1.length==c0.2.1.length then
   bif s.2.2.1.length==c0.2.2.1.length then
    bif s.2.2.2.1.length==c0.2.2.2.1.length then
     bif s.2.2.2.2.1.length==c0.2.2.2.2.1.length then
      bif s.2.2.2.2.2.length==c0.2.2.2.2.2.length then
       some (.done s)
      else
       none
     else
      none
    else
     none
   else
    none
  else
   none
def ref07_up_w8962 (a:(Int×(List Int)×(List Bool)×(List Int)×(List (Int×Int×Int×Int×Int))×(List Int))):Option (Int×(List Int)×(List Bool)×(List Int)×(List (Int×Int×Int×Int×Int))×(List Int)):=
 whileO (ref07_up_w8962_l1 a) a
def f127_1:FpCon:=⟨[.i,.l [.i .i64],.l [.b],.l [.i .i64],.l [.i .i64,.i .i64,.i .i64,.i .i64,.i .i64],.l [.i .i64]],[.agg [.own 0 false,.own 1 false,.own 2 false,.own 3 false,.own 4 false],.int .i64 0],[.arr [.i .i64] [],.arr [.b] [],.arr [.i .i64] [],.arr [.i .i64,.i .i64,.i .i64,.i .i64,.i .i64] [],.arr [.i .i64] []],[.i,.l [.i .i64],.l [.b],.l [.i .i64],.l [.i .i64,.i .i64,.i .i64,.i .i64,.i .i64],.l [.i .i64]],.int .i64 0,[.arr [.i .i64] [],.arr [.b] [],.arr [.i .i64] [],.arr [.i .i64,.i .i64,.i .i64,.i .i64,.i .i64] [],.arr [.i .i64] []],fun a=>ref07_up_w8962 a⟩
theorem f127_1_ok:FpOK tab 127 f127_1:=FpOK.of tab_127 (wd:=false) (cx:=(mkCx whileL [(86,c86)] [(124,f124_0),(124,f124_1)] [] [])) (CxOK.make ⟨c86_ok,trivial⟩ ⟨f124_0_ok,f124_1_ok,trivial⟩ trivial) (fun a=>by kernel_rfl)
def ref07_down_w8962_l1 (c0:(Int×(List Int)×(List Bool)×(List Int)×(List (Int×Int×Int×Int×Int))×(List Int))) (s:(Int×(List Int)×(List Bool)×(List Int)×(List (Int×Int×Int×Int×Int))×(List Int))):Option (Step (Int×(List Int)×(List Bool)×(List Int)×(List (Int×Int×Int×Int×Int))×(List Int)) ((List Int)×(List Bool)×(List Int)×(List (Int×Int×Int×Int×Int))×(List Int))):=
 bif decide ((Int.ofNat s.2.2.2.2.1.length)<=(wrapF .i64 ((wrapF .i64 (2*s.1))+1))) then
  bif s.2.1.length==c0.2.1.length then
   bif s.2.2.1.length==c0.2.2.1.length then
    bif s.2.2.2.1.length==c0.2.2.2.1.length then
     bif s.2.2.2.2.1.length==c0.2.2.2.2.1.length then
      bif s.2.2.2.2.2.length==c0.2.2.2.2.2.length then
       some (.done s.2)
      else
       none
     else
      none
    else
     none
   else
    none
  else
   none
 else
  bif decide ((wrapF .i64 ((wrapF .i64 ((wrapF .i64 (2*s.1))+1))+1))<(Int.ofNat s.2.2.2.2.1.length)) then
   (geti s.2.2.2.2.1 (wrapF .i64 ((wrapF .i64 ((wrapF .i64 (2*s.1))+1))+1))).bind fun a0=>
   (geti s.2.2.2.2.1 (wrapF .i64 ((wrapF .i64 (2*s.1))+1))).bind fun a1=>
   (ref07_Less a0 a1).bind fun b2=>
   bif b2 then
    (geti s.2.2.2.2.1 (wrapF .i64 ((wrapF .i64 ((wrapF .i64 (2*s.1))+1))+1))).bind fun a3=>
    (geti s.2.2.2.2.1 s.1).bind fun a4=>
    (ref07_Less a3 a4).bind fun b5=>
    bif !b5 then
     bif s.2.1.length==c0.2.1.length then
      bif s.2.2.1.length==c0.2.2.1.length then
       bif s.2.2.2.1.length==c0.2.2.2.1.length then
        bif s.2.2.2.2.1.length==c0.2.2.2.2.1.length then
         bif s.2.2.2.2.2.length==c0.2.2.2.2.2.length then
          some (.done s.2)
         else
          none
        else
         none
       else
        none
      else
       none
     else
      none
    else
     (ref07_swap_w9392 (s.1,wrapF .i64 ((wrapF .i64 ((wrapF .i64 (2*s.1))+1))+1),s.2)).bind fun a6=>
     some (.next (wrapF .i64 ((wrapF .i64 ((wrapF .i64 (2*s.1))+1))+1),a6))
   else
    (geti s.2.2.2.2.1 (wrapF .i64 ((wrapF .i64 (2*s.1))+1))).bind fun a7=>
    (geti s.2.2.2.2.1 s.1).bind fun a8=>
    (ref07_Less a7 a8).bind fun b9=>
    bif !b9 then
     bif s.2.1.length==c0.2.1.length then
      bif s.2.2.1.length==c0.2.2.1.length then
       bif s.2.2.2.1.length==c0.2.2.2.1.length then
        bif s.2.2.2.2.1.length==c0.2.2.2.2.1.length then
         bif s.2.2.2.2.2.length==c0.2.2.2.2.2.length then
          some (.done s.2)
         else
          none
        else
         none
       else
        none
      else
       none
     else
      none
    else
     (ref07_swap_w9392 (s.1,wrapF .i64 ((wrapF .i64 (2*s.1))+1),s.2)).bind fun a10=>
     some (.next (wrapF .i64 ((wrapF .i64 (2*s.1))+1),a10))
  else
   (geti s.2.2.2.2.1 (wrapF .i64 ((wrapF .i64 (2*s.1))+1))).bind fun a11=>
   (geti s.2.2.2.2.1 s.1).bind fun a12=>
   (ref07_Less a11 a12).bind fun b13=>
   bif !b13 then
    bif s.2.1.length==c0.2.1.length then
     bif s.2.2.1.length==c0.2.2.1.length then
      bif s.2.2.2.1.length==c0.2.2.2.1.length then
       bif s.2.2.2.2.1.length==c0.2.2.2.2.1.length then
        bif s.2.2.2.2.2.length==c0.2.2.2.2.2.length then
         some (.done s.2)
        else
         none
       else
        none
      else
       none
     else
      none
    else
     none
   else
    (ref07_swap_w9392 (s.1,wrapF .i64 ((wrapF .i64 (2*s.1))+1),s.2)).bind fun a14=>
    some (.next (wrapF .i64 ((wrapF .i64 (2*s.1))+1),a14))
def ref07_down_w8962 (a:(Int×(List Int)×(List Bool)×(List Int)×(List (Int×Int×Int×Int×Int))×(List Int))):Option ((List Int)×(List Bool)×(List Int)×(List (Int×Int×Int×Int×Int))×(List Int)):=
 whileO (ref07_down_w8962_l1 a) a
def f126_1:FpCon:=⟨[.i,.l [.i .i64],.l [.b],.l [.i .i64],.l [.i .i64,.i .i64,.i .i64,.i .i64,.i .i64],.l [.i .i64]],[.agg [.own 0 false,.own 1 false,.own 2 false,.own 3 false,.own 4 false],.int .i64 0],[.arr [.i .i64] [],.arr [.b] [],.arr [.i .i64] [],.arr [.i .i64,.i .i64,.i .i64,.i .i64,.i .i64] [],.arr [.i .i64] []],[.l [.i .i64],.l [.b],.l [.i .i64],.l [.i .i64,.i .i64,.i .i64,.i .i64,.i .i64],.l [.i .i64]],.tup [],[.arr [.i .i64] [],.arr [.b] [],.arr [.i .i64] [],.arr [.i .i64,.i .i64,.i .i64,.i .i64,.i .i64] [],.arr [.i .i64] []],fun a=>ref07_down_w8962 a⟩
theorem f126_1_ok:FpOK tab 126 f126_1:=FpOK.of tab_126 (wd:=false) (cx:=(mkCx whileL [(86,c86)] [(124,f124_0),(124,f124_1)] [] [])) (CxOK.make ⟨c86_ok,trivial⟩ ⟨f124_0_ok,f124_1_ok,trivial⟩ trivial) (fun a=>by kernel_rfl)
def ref07_Rekeyed (p0:Agenda) (p1:Int×Int) (p2:Int×Int):Option Agenda:=
 (ref07_Twin p0).bind fun r0=>
 (geti r0.where_ p1.1).bind fun n1=>
 (geti r0.heap n1).bind fun a2=>
 (ref07_up_w8962 (n1,r0.slots.uses,r0.slots.used,r0.slots.free,seti r0.heap n1 (p2.1,p2.2,a2.2.2),r0.where_)).bind fun a3=>
 (ref07_down_w8962 a3).bind fun a4=>
 some (Agenda.mk (Slots.mk a4.1 a4.2.1 a4.2.2.1) a4.2.2.2.1 a4.2.2.2.2)
def c92:Con:=⟨Args.cons (Arg.agg Agenda_c) (Args.cons (Arg.agg (Cod.row kii)) (Args.one (Arg.agg (Cod.row kii)))),Arg.agg Agenda_c,fun a=>ref07_Rekeyed a.1 a.2.1 a.2.2,.frz,false⟩
theorem c92_ok:ConOK tab 92 c92:=ConOK.of tab_92 (cx:=(mkCx whileL [(13,c13),(13,c13p)] [(127,f127_0),(126,f126_0),(127,f127_1),(126,f126_1)] [] [])) rfl (CxOK.make ⟨c13_ok,c13p_ok,trivial⟩ ⟨f127_0_ok,f126_0_ok,f127_1_ok,f126_1_ok,trivial⟩ trivial) (fun a=>by kernel_rfl)
def ref06_Open (p0:Slots):Option Bool:=
 bif decide (0<(Int.ofNat p0.free.length)) then
  (geti p0.free (wrapF .i64 ((Int.ofNat p0.free.length) -1))).bind fun n0=>
  (geti p0.uses n0).bind fun n1=>
  some (decide (n1<1000000))
 else
  some false
def c93:Con:=⟨Args.one (Arg.agg Slots_c),Arg.bool,fun a=>ref06_Open a,.pure,false⟩
theorem c93_ok:ConOK tab 93 c93:=Oc tab_93 rfl whileL [] trivial fun a=>by kernel_rfl
def ref06_Taken (p0:Slots):Option (Slots×(Int×Int)):=
 (ref06_Twin p0).bind fun r0=>
 (geti r0.free (wrapF .i64 ((Int.ofNat r0.free.length) -1))).bind fun n1=>
 (sliceO r0.free 0 (wrapF .i64 ((Int.ofNat r0.free.length) -1))).bind fun _=>
 (geti r0.uses n1).bind fun n3=>
 (geti r0.uses n1).bind fun _=>
 (geti r0.used n1).bind fun _=>
 (geti (seti r0.uses n1 (wrapF .i64 (n3+1))) n1).bind fun n6=>
 some (Slots.mk (seti r0.uses n1 (wrapF .i64 (n3+1))) (seti r0.used n1 true) (r0.free.take ((wrapF .i64 ((Int.ofNat r0.free.length) -1)).toNat)),n1,n6)
def c128:Con:=⟨Args.one (Arg.agg Slots_c),Arg.tup (Args.cons (Arg.agg Slots_c) (Args.one (Arg.agg (Cod.row kii)))),fun a=>ref06_Taken a,.frz,false⟩
theorem c128_ok:ConOK tab 128 c128:=Oc tab_128 rfl whileL [(28,c28),(28,c28p)] ⟨c28_ok,c28p_ok,trivial⟩ fun a=>by kernel_rfl
def ref07_swap_w7853 (a:((List Int)×(List Bool)×(List Int)×Int×Int×(List (Int×Int×Int×Int×Int))×(List Int))):Option ((List (Int×Int×Int×Int×Int))×(List Int)):=
 (geti a.2.2.2.2.2.1 a.2.2.2.2.1).bind fun a0=>
 (geti a.2.2.2.2.2.1 a.2.2.2.1).bind fun a1=>
 (geti a.2.2.2.2.2.1 a.2.2.2.1).bind fun _=>
 (geti (seti a.2.2.2.2.2.1 a.2.2.2.1 a0) a.2.2.2.2.1).bind fun _=>
 (geti (seti (seti a.2.2.2.2.2.1 a.2.2.2.1 a0) a.2.2.2.2.1 a1) a.2.2.2.1).bind fun a4=>
 (geti (seti (seti a.2.2.2.2.2.1 a.2.2.2.1 a0) a.2.2.2.2.1 a1) a.2.2.2.2.1).bind fun a5=>
 (geti a.2.2.2.2.2.2 a4.2.2.2.1).bind fun _=>
 (geti (seti a.2.2.2.2.2.2 a4.2.2.2.1 a.2.2.2.1) a5.2.2.2.1).bind fun _=>
 bif ((seti (seti a.2.2.2.2.2.1 a.2.2.2.1 a0) a.2.2.2.2.1 a1).length)==a.2.2.2.2.2.1.length then
  bif ((seti (seti a.2.2.2.2.2.2 a4.2.2.2.1 a.2.2.2.1) a5.2.2.2.1 a.2.2.2.2.1).length)==a.2.2.2.2.2.2.length then
   some (seti (seti a.2.2.2.2.2.1 a.2.2.2.1 a0) a.2.2.2.2.1 a1,seti (seti a.2.2.2.2.2.2 a4.2.2.2.1 a.2.2.2.1) a5.2.2.2.1 a.2.2.2.2.1)
  else
   none
 else
  none
def f124_2:FpCon:=⟨[.l [.i .i64],.l [.b],.l [.i .i64],.i,.i,.l [.i .i64,.i .i64,.i .i64,.i .i64,.i .i64],.l [.i .i64]],[.agg [.sl [.i .i64] [],.sl [.b] [],.sl [.i .i64] [],.own 0 false,.own 1 false],.int .i64 0,.int .i64 0],[.arr [.i .i64,.i .i64,.i .i64,.i .i64,.i .i64] [],.arr [.i .i64] []],[.l [.i .i64,.i .i64,.i .i64,.i .i64,.i .i64],.l [.i .i64]],.tup [],[.arr [.i .i64,.i .i64,.i .i64,.i .i64,.i .i64] [],.arr [.i .i64] []],fun a=>ref07_swap_w7853 a⟩
theorem f124_2_ok:FpOK tab 124 f124_2:=FpOK.of tab_124 (wd:=false) (cx:=(mkCx whileL [] [] [] [])) (CxOK.make trivial trivial trivial) (fun a=>by kernel_rfl)
def ref07_up_w1305_l1 (c0:((List Int)×(List Bool)×(List Int)×Int×(List (Int×Int×Int×Int×Int))×(List Int))) (s:(Int×(List (Int×Int×Int×Int×Int))×(List Int)×(List Int)×(List Bool)×(List Int))):Option (Step (Int×(List (Int×Int×Int×Int×Int))×(List Int)×(List Int)×(List Bool)×(List Int)) (Int×(List (Int×Int×Int×Int×Int))×(List Int))):=
 bif decide (0<s.1) then
  (geti s.2.1 s.1).bind fun a0=>
  (geti s.2.1 (wrapF .i64 (Int.tdiv (wrapF .i64 (s.1-1)) 2))).bind fun a1=>
  (ref07_Less a0 a1).bind fun b2=>
  bif b2 then
   (ref07_swap_w7853 (s.2.2.2.1,s.2.2.2.2.1,s.2.2.2.2.2,s.1,wrapF .i64 (Int.tdiv (wrapF .i64 (s.1-1)) 2),s.2.1,s.2.2.1)).bind fun a3=>
   some (.next (wrapF .i64 (Int.tdiv (wrapF .i64 (s.1-1)) 2),a3.1,a3.2,s.2.2.2))
  else
   bif s.2.1.length==c0.2.2.2.2.1.length then
    bif s.2.2.1.length==c0.2.2.2.2.2.length then
     some (.done (s.1,s.2.1,s.2.2.1))
    else
     none
   else
    none
 else
  bif s.2.1.length==c0.2.2.2.2.1.length then
   bif s.2.2.1.length==c0.2.2.2.2.2.length then
    some (.done (s.1,s.2.1,s.2.2.1))
   else
    none
  else
   none
def ref07_up_w1305 (a:((List Int)×(List Bool)×(List Int)×Int×(List (Int×Int×Int×Int×Int))×(List Int))):Option (Int×(List (Int×Int×Int×Int×Int))×(List Int)):=
 whileO (ref07_up_w1305_l1 a) (a.2.2.2.1,a.2.2.2.2.1,a.2.2.2.2.2,a.1,a.2.1,a.2.2.1)
def f127_2:FpCon:=⟨[.l [.i .i64],.l [.b],.l [.i .i64],.i,.l [.i .i64,.i .i64,.i .i64,.i .i64,.i .i64],.l [.i .i64]],[.agg [.sl [.i .i64] [],.sl [.b] [],.sl [.i .i64] [],.own 0 false,.own 1 false],.int .i64 0],[.arr [.i .i64,.i .i64,.i .i64,.i .i64,.i .i64] [],.arr [.i .i64] []],[.i,.l [.i .i64,.i .i64,.i .i64,.i .i64,.i .i64],.l [.i .i64]],.int .i64 0,[.arr [.i .i64,.i .i64,.i .i64,.i .i64,.i .i64] [],.arr [.i .i64] []],fun a=>ref07_up_w1305 a⟩
theorem f127_2_ok:FpOK tab 127 f127_2:=FpOK.of tab_127 (wd:=true) (cx:=(mkCx whileL [(86,c86)] [(124,f124_0),(124,f124_1),(124,f124_2)] [] [])) (CxOK.make ⟨c86_ok,trivial⟩ ⟨f124_0_ok,f124_1_ok,f124_2_ok,trivial⟩ trivial) (fun a=>by kernel_rfl)
def ref07_Pushed (p0:Agenda) (p1:Int×Int) (p2:Int):Option (Agenda×(Int×Int)):=
 (ref07_Twin p0).bind fun r0=>
 (ref06_Taken r0.slots).bind fun a1=>
 (appendO r0.heap [(p1.1,p1.2,p2,a1.2)]).bind fun l2=>
 (geti r0.where_ a1.2.1).bind fun _=>
 (ref07_up_w1305 (a1.1.uses,a1.1.used,a1.1.free,wrapF .i64 ((Int.ofNat l2.length) -1),l2,seti r0.where_ a1.2.1 (wrapF .i64 ((Int.ofNat l2.length) -1)))).bind fun a4=>
 some (Agenda.mk a1.1 a4.2.1 a4.2.2,a1.2)
def c94:Con:=⟨Args.cons (Arg.agg Agenda_c) (Args.cons (Arg.agg (Cod.row kii)) (Args.one (Arg.int .i64))),Arg.tup (Args.cons (Arg.agg Agenda_c) (Args.one (Arg.agg (Cod.row kii)))),fun a=>ref07_Pushed a.1 a.2.1 a.2.2,.frz,false⟩
theorem c94_ok:ConOK tab 94 c94:=ConOK.of tab_94 (cx:=(mkCx whileL [(13,c13),(13,c13p),(128,c128)] [(127,f127_0),(127,f127_1),(127,f127_2)] [] [])) rfl (CxOK.make ⟨c13_ok,c13p_ok,c128_ok,trivial⟩ ⟨f127_0_ok,f127_1_ok,f127_2_ok,trivial⟩ trivial) (fun a=>by kernel_rfl)
end
end Go.Proofs.YtjikemfbommnlaaGreat
