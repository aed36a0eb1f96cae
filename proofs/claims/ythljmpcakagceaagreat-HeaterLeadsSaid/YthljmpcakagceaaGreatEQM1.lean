/- Plain laws (1). -/
import Derived.Test.YthljmpcakagceaaGreatEVm2
import Derived.Test.YthljmpcakagceaaGreatEVm1
import Derived.Test.YthljmpcakagceaaGreatEQS2
namespace Go.Vm
instance lpN:LP:=⟨none⟩
section
variable {σ ρ : Type}
theorem DG {body:σ->Option (cA σ ρ)} {x:σ} {r:ρ}:aH body x=some r↔ ∃n,tC body n x=some r:=JO
theorem aX {body:σ->Option (cA σ ρ)} {x y:σ} (h:body x=some (.next y)):aH body x=aH body y:=by
 apply Option.ext;intro r;rw [DG,DG];constructor
 · rintro ⟨n,hn⟩
   cases n with
   |zero=>cases hn
   |succ n=>simp only [tC,h] at hn;exact ⟨n,hn⟩
 · rintro ⟨n,hn⟩
   exact ⟨n+1,by simp only [tC,h];exact hn⟩
theorem aL {body:σ->Option (cA σ ρ)} {x:σ} {r:ρ} (h:body x=some (.done r)):aH body x=some r:=
 DG.2 ⟨1,by simp only [tC,h]⟩
end
end Go.Vm
namespace Go.Proofs.YthljmpcakagceaaGreat
open Go.Vm
noncomputable def BE (p0:Field):Option Field:=
 (cC p0.points).bind fun l0=>
 some (Field.mk l0)
noncomputable def BF (p0:aU):Option aU:=
 (cC p0.list).bind fun l0=>
 some (aU.mk p0.next_ l0)
noncomputable def wL (p0:aR):Option aR:=
 (cC p0.uses).bind fun l0=>
 (cC p0.used).bind fun l1=>
 (cC p0.free).bind fun l2=>
 some (aR.mk l0 l1 l2)
noncomputable def rW (p0:aG):Option aG:=
 (wL p0.slots).bind fun r0=>
 (cC p0.heap).bind fun l1=>
 (cC p0.where_).bind fun l2=>
 some (aG.mk r0 l1 l2)
noncomputable def rX (p0:aJ):Option aJ:=
 (BE p0.field).bind fun r0=>
 (BF p0.certs).bind fun r1=>
 (rW p0.agenda).bind fun r2=>
 (cC p0.due).bind fun l3=>
 some (aJ.mk p0.now r0 r1 r2 l3)
noncomputable def lG (s:(Int×Int×Int×(List (Int×Int×Int))×Int×Int×(List (Int×Int×Int)))):Option (cA (Int×Int×Int×(List (Int×Int×Int))×Int×Int×(List (Int×Int×Int))) aU):=
 bif decide (s.2.1<(Int.ofNat s.2.2.2.1.length)) then
  (aO s.2.2.2.1 s.2.1).bind fun a0=>
  bif a0.1 !=s.1 then
   (aO s.2.2.2.1 s.2.1).bind fun a1=>
   (bK s.2.2.2.2.2.2 [a1]).bind fun l2=>
   some (.next (s.1,aA .i64 (s.2.1+1),s.2.2.1,s.2.2.2.1,s.2.2.2.2.1,s.2.2.2.2.2.1,l2))
  else
   some (.next (s.1,aA .i64 (s.2.1+1),s.2.2))
 else
  some (.done (aU.mk s.2.2.2.2.2.1 s.2.2.2.2.2.2))
noncomputable def yQ (p0:aU) (p1:Int):Option aU:=
 aH lG (p1,0,p0.next_,p0.list,0,p0.next_,[])
noncomputable def qR (s:(Int×Int×Int×Int×(List (Int×Int×Int))×Int×(List (Int×Int×Int))×(List Int)×(List Bool)×(List Int)×(List (Int×Int×Int×Int×Int))×(List Int)×(List (Int×Int×Int)))):Option (cA (Int×Int×Int×Int×(List (Int×Int×Int))×Int×(List (Int×Int×Int))×(List Int)×(List Bool)×(List Int)×(List (Int×Int×Int×Int×Int))×(List Int)×(List (Int×Int×Int))) Int):=
 bif decide (s.2.1<(Int.ofNat s.2.2.2.2.2.2.2.2.2.2.2.2.length)) then
  (aO s.2.2.2.2.2.2.2.2.2.2.2.2 s.2.1).bind fun a0=>
  bif a0.1==s.1 then
   some (.done s.2.1)
  else
   some (.next (s.1,aA .i64 (s.2.1+1),s.2.2))
 else
  some (.done (-1))
noncomputable def uA (p0:aJ) (p1:Int):Option Int:=
 aH qR (p1,0,p0.now.1,p0.now.2,p0.field.points,p0.certs.next_,p0.certs.list,p0.agenda.slots.uses,p0.agenda.slots.used,p0.agenda.slots.free,p0.agenda.heap,p0.agenda.where_,p0.due)
noncomputable def uB (p0:aR) (p1:Int×Int):Option aR:=
 (wL p0).bind fun r0=>
 (aO r0.used p1.1).bind fun b1=>
 (bK r0.free [p1.1]).bind fun l2=>
 some (aR.mk r0.uses (bZ r0.used p1.1 false) l2)
noncomputable def gT (a:(Int×Int×(List Int)×(List Bool)×(List Int)×(List (Int×Int×Int×Int×Int))×(List Int))):Option ((List Int)×(List Bool)×(List Int)×(List (Int×Int×Int×Int×Int))×(List Int)):=
 (aO a.2.2.2.2.2.1 a.2.1).bind fun a0=>
 (aO a.2.2.2.2.2.1 a.1).bind fun a1=>
 (aO a.2.2.2.2.2.1 a.1).bind fun a2=>
 (aO (bZ a.2.2.2.2.2.1 a.1 a0) a.2.1).bind fun a3=>
 (aO (bZ (bZ a.2.2.2.2.2.1 a.1 a0) a.2.1 a1) a.1).bind fun a4=>
 (aO (bZ (bZ a.2.2.2.2.2.1 a.1 a0) a.2.1 a1) a.2.1).bind fun a5=>
 (aO a.2.2.2.2.2.2 a4.2.2.2.1).bind fun n6=>
 (aO (bZ a.2.2.2.2.2.2 a4.2.2.2.1 a.1) a5.2.2.2.1).bind fun n7=>
 bif a.2.2.1.length==a.2.2.1.length then
  bif a.2.2.2.1.length==a.2.2.2.1.length then
   bif a.2.2.2.2.1.length==a.2.2.2.2.1.length then
    bif ((bZ (bZ a.2.2.2.2.2.1 a.1 a0) a.2.1 a1).length)==a.2.2.2.2.2.1.length then
     bif ((bZ (bZ a.2.2.2.2.2.2 a4.2.2.2.1 a.1) a5.2.2.2.1 a.2.1).length)==a.2.2.2.2.2.2.length then
      some (a.2.2.1,a.2.2.2.1,a.2.2.2.2.1,bZ (bZ a.2.2.2.2.2.1 a.1 a0) a.2.1 a1,bZ (bZ a.2.2.2.2.2.2 a4.2.2.2.1 a.1) a5.2.2.2.1 a.2.1)
     else
      none
    else
     none
   else
    none
  else
   none
 else
  none
noncomputable def iX (a:((List Int)×(List Bool)×(List Int)×Nat×Nat×Int×Int×(List (Int×Int×Int×Int×Int))×(List Int))):Option ((List (Int×Int×Int×Int×Int))×(List Int)):=
 (aO (a.2.2.2.2.2.2.2.1.take a.2.2.2.1) a.2.2.2.2.2.2.1).bind fun a0=>
 (aO (a.2.2.2.2.2.2.2.1.take a.2.2.2.1) a.2.2.2.2.2.1).bind fun a1=>
 (aO (a.2.2.2.2.2.2.2.1.take a.2.2.2.1) a.2.2.2.2.2.1).bind fun a2=>
 (aO ((bZ a.2.2.2.2.2.2.2.1 a.2.2.2.2.2.1 a0).take a.2.2.2.1) a.2.2.2.2.2.2.1).bind fun a3=>
 (aO ((bZ (bZ a.2.2.2.2.2.2.2.1 a.2.2.2.2.2.1 a0) a.2.2.2.2.2.2.1 a1).take a.2.2.2.1) a.2.2.2.2.2.1).bind fun a4=>
 (aO ((bZ (bZ a.2.2.2.2.2.2.2.1 a.2.2.2.2.2.1 a0) a.2.2.2.2.2.2.1 a1).take a.2.2.2.1) a.2.2.2.2.2.2.1).bind fun a5=>
 (aO a.2.2.2.2.2.2.2.2 a4.2.2.2.1).bind fun n6=>
 (aO (bZ a.2.2.2.2.2.2.2.2 a4.2.2.2.1 a.2.2.2.2.2.1) a5.2.2.2.1).bind fun n7=>
 bif ((bZ (bZ a.2.2.2.2.2.2.2.1 a.2.2.2.2.2.1 a0) a.2.2.2.2.2.2.1 a1).length)==a.2.2.2.2.2.2.2.1.length then
  bif ((bZ (bZ a.2.2.2.2.2.2.2.2 a4.2.2.2.1 a.2.2.2.2.2.1) a5.2.2.2.1 a.2.2.2.2.2.2.1).length)==a.2.2.2.2.2.2.2.2.length then
   some (bZ (bZ a.2.2.2.2.2.2.2.1 a.2.2.2.2.2.1 a0) a.2.2.2.2.2.2.1 a1,bZ (bZ a.2.2.2.2.2.2.2.2 a4.2.2.2.1 a.2.2.2.2.2.1) a5.2.2.2.1 a.2.2.2.2.2.2.1)
  else
   none
 else
  none
noncomputable def iC (c0:((List Int)×(List Bool)×(List Int)×Nat×Nat×Int×(List (Int×Int×Int×Int×Int))×(List Int))) (s:(Int×(List (Int×Int×Int×Int×Int))×(List Int)×(List Int)×(List Bool)×(List Int)×Nat×Nat)):Option (cA (Int×(List (Int×Int×Int×Int×Int))×(List Int)×(List Int)×(List Bool)×(List Int)×Nat×Nat) (Int×(List (Int×Int×Int×Int×Int))×(List Int))):=
 bif decide (0<s.1) then
  (aO (s.2.1.take s.2.2.2.2.2.2.1) s.1).bind fun a0=>
  (aO (s.2.1.take s.2.2.2.2.2.2.1) (aA .i64 (Int.tdiv (aA .i64 (s.1-1)) 2))).bind fun a1=>
  (eQ a0 a1).bind fun b2=>
  bif b2 then
   (iX (s.2.2.2.1,s.2.2.2.2.1,s.2.2.2.2.2.1,s.2.2.2.2.2.2.1,s.2.2.2.2.2.2.2,s.1,aA .i64 (Int.tdiv (aA .i64 (s.1-1)) 2),s.2.1,s.2.2.1)).bind fun a3=>
   some (.next (aA .i64 (Int.tdiv (aA .i64 (s.1-1)) 2),a3.1,a3.2,s.2.2.2))
  else
   bif s.2.1.length==c0.2.2.2.2.2.2.1.length then
    bif s.2.2.1.length==c0.2.2.2.2.2.2.2.length then
     some (.done (s.1,s.2.1,s.2.2.1))
    else
     none
   else
    none
 else
  bif s.2.1.length==c0.2.2.2.2.2.2.1.length then
   bif s.2.2.1.length==c0.2.2.2.2.2.2.2.length then
    some (.done (s.1,s.2.1,s.2.2.1))
   else
    none
  else
   none
noncomputable def qS (a:((List Int)×(List Bool)×(List Int)×Nat×Nat×Int×(List (Int×Int×Int×Int×Int))×(List Int))):Option (Int×(List (Int×Int×Int×Int×Int))×(List Int)):=
 aH (iC a) (a.2.2.2.2.2.1,a.2.2.2.2.2.2.1,a.2.2.2.2.2.2.2,a.1,a.2.1,a.2.2.1,a.2.2.2.1,a.2.2.2.2.1)
noncomputable def kN (c0:((List Int)×(List Bool)×(List Int)×Nat×Nat×Int×(List (Int×Int×Int×Int×Int))×(List Int))) (s:(Int×(List (Int×Int×Int×Int×Int))×(List Int)×(List Int)×(List Bool)×(List Int)×Nat×Nat)):Option (cA (Int×(List (Int×Int×Int×Int×Int))×(List Int)×(List Int)×(List Bool)×(List Int)×Nat×Nat) ((List (Int×Int×Int×Int×Int))×(List Int))):=
 bif decide ((Int.ofNat s.2.2.2.2.2.2.1)<=(aA .i64 ((aA .i64 (2*s.1))+1))) then
  bif s.2.1.length==c0.2.2.2.2.2.2.1.length then
   bif s.2.2.1.length==c0.2.2.2.2.2.2.2.length then
    some (.done (s.2.1,s.2.2.1))
   else
    none
  else
   none
 else
  bif decide ((aA .i64 ((aA .i64 ((aA .i64 (2*s.1))+1))+1))<(Int.ofNat s.2.2.2.2.2.2.1)) then
   (aO (s.2.1.take s.2.2.2.2.2.2.1) (aA .i64 ((aA .i64 ((aA .i64 (2*s.1))+1))+1))).bind fun a0=>
   (aO (s.2.1.take s.2.2.2.2.2.2.1) (aA .i64 ((aA .i64 (2*s.1))+1))).bind fun a1=>
   (eQ a0 a1).bind fun b2=>
   bif b2 then
    (aO (s.2.1.take s.2.2.2.2.2.2.1) (aA .i64 ((aA .i64 ((aA .i64 (2*s.1))+1))+1))).bind fun a3=>
    (aO (s.2.1.take s.2.2.2.2.2.2.1) s.1).bind fun a4=>
    (eQ a3 a4).bind fun b5=>
    bif !b5 then
     bif s.2.1.length==c0.2.2.2.2.2.2.1.length then
      bif s.2.2.1.length==c0.2.2.2.2.2.2.2.length then
       some (.done (s.2.1,s.2.2.1))
      else
       none
     else
      none
    else
     (iX (s.2.2.2.1,s.2.2.2.2.1,s.2.2.2.2.2.1,s.2.2.2.2.2.2.1,s.2.2.2.2.2.2.2,s.1,aA .i64 ((aA .i64 ((aA .i64 (2*s.1))+1))+1),s.2.1,s.2.2.1)).bind fun a6=>
     some (.next (aA .i64 ((aA .i64 ((aA .i64 (2*s.1))+1))+1),a6.1,a6.2,s.2.2.2))
   else
    (aO (s.2.1.take s.2.2.2.2.2.2.1) (aA .i64 ((aA .i64 (2*s.1))+1))).bind fun a7=>
    (aO (s.2.1.take s.2.2.2.2.2.2.1) s.1).bind fun a8=>
    (eQ a7 a8).bind fun b9=>
    bif !b9 then
     bif s.2.1.length==c0.2.2.2.2.2.2.1.length then
      bif s.2.2.1.length==c0.2.2.2.2.2.2.2.length then
       some (.done (s.2.1,s.2.2.1))
      else
       none
     else
      none
    else
     (iX (s.2.2.2.1,s.2.2.2.2.1,s.2.2.2.2.2.1,s.2.2.2.2.2.2.1,s.2.2.2.2.2.2.2,s.1,aA .i64 ((aA .i64 (2*s.1))+1),s.2.1,s.2.2.1)).bind fun a10=>
     some (.next (aA .i64 ((aA .i64 (2*s.1))+1),a10.1,a10.2,s.2.2.2))
  else
   (aO (s.2.1.take s.2.2.2.2.2.2.1) (aA .i64 ((aA .i64 (2*s.1))+1))).bind fun a11=>
   (aO (s.2.1.take s.2.2.2.2.2.2.1) s.1).bind fun a12=>
   (eQ a11 a12).bind fun b13=>
   bif !b13 then
    bif s.2.1.length==c0.2.2.2.2.2.2.1.length then
     bif s.2.2.1.length==c0.2.2.2.2.2.2.2.length then
      some (.done (s.2.1,s.2.2.1))
     else
      none
    else
     none
   else
    (iX (s.2.2.2.1,s.2.2.2.2.1,s.2.2.2.2.2.1,s.2.2.2.2.2.2.1,s.2.2.2.2.2.2.2,s.1,aA .i64 ((aA .i64 (2*s.1))+1),s.2.1,s.2.2.1)).bind fun a14=>
    some (.next (aA .i64 ((aA .i64 (2*s.1))+1),a14.1,a14.2,s.2.2.2))
noncomputable def nT (a:((List Int)×(List Bool)×(List Int)×Nat×Nat×Int×(List (Int×Int×Int×Int×Int))×(List Int))):Option ((List (Int×Int×Int×Int×Int))×(List Int)):=
 aH (kN a) (a.2.2.2.2.2.1,a.2.2.2.2.2.2.1,a.2.2.2.2.2.2.2,a.1,a.2.1,a.2.2.1,a.2.2.2.1,a.2.2.2.2.1)
noncomputable def mP (p0:aG) (p1:Int×Int):Option aG:=
 (rW p0).bind fun r0=>
 (aO r0.where_ p1.1).bind fun n1=>
 bif n1 !=(aA .i64 ((Int.ofNat r0.heap.length) -1)) then
  (gT (n1,aA .i64 ((Int.ofNat r0.heap.length) -1),r0.slots.uses,r0.slots.used,r0.slots.free,r0.heap,r0.where_)).bind fun a2=>
  (iZ a2.2.2.2.1 0 (aA .i64 ((Int.ofNat r0.heap.length) -1))).bind fun l3=>
  (aO a2.2.2.2.2 p1.1).bind fun n4=>
  (uB (aR.mk a2.1 a2.2.1 a2.2.2.1) p1).bind fun r5=>
  bif n1 !=(aA .i64 ((Int.ofNat r0.heap.length) -1)) then
   (qS (r5.uses,r5.used,r5.free,(aA .i64 ((Int.ofNat r0.heap.length) -1)).toNat,a2.2.2.2.1.length,n1,a2.2.2.2.1,bZ a2.2.2.2.2 p1.1 (-1))).bind fun a6=>
   (nT (r5.uses,r5.used,r5.free,(aA .i64 ((Int.ofNat r0.heap.length) -1)).toNat,a2.2.2.2.1.length,a6)).bind fun a7=>
   some (aG.mk r5 (a7.1.take ((aA .i64 ((Int.ofNat r0.heap.length) -1)).toNat)) a7.2)
  else
   some (aG.mk r5 (a2.2.2.2.1.take ((aA .i64 ((Int.ofNat r0.heap.length) -1)).toNat)) (bZ a2.2.2.2.2 p1.1 (-1)))
 else
  (iZ r0.heap 0 (aA .i64 ((Int.ofNat r0.heap.length) -1))).bind fun l8=>
  (aO r0.where_ p1.1).bind fun n9=>
  (uB r0.slots p1).bind fun r10=>
  bif n1 !=(aA .i64 ((Int.ofNat r0.heap.length) -1)) then
   (qS (r10.uses,r10.used,r10.free,(aA .i64 ((Int.ofNat r0.heap.length) -1)).toNat,r0.heap.length,n1,r0.heap,bZ r0.where_ p1.1 (-1))).bind fun a11=>
   (nT (r10.uses,r10.used,r10.free,(aA .i64 ((Int.ofNat r0.heap.length) -1)).toNat,r0.heap.length,a11)).bind fun a12=>
   some (aG.mk r10 (a12.1.take ((aA .i64 ((Int.ofNat r0.heap.length) -1)).toNat)) a12.2)
  else
   some (aG.mk r10 (r0.heap.take ((aA .i64 ((Int.ofNat r0.heap.length) -1)).toNat)) (bZ r0.where_ p1.1 (-1)))
noncomputable def rY (p0:aJ) (p1:Int):Option aJ:=
 (rX p0).bind fun r0=>
 (yQ p0.certs p1).bind fun r1=>
 (uA p0 p1).bind fun n2=>
 bif decide (0<=n2) then
  (aO p0.due n2).bind fun a3=>
  (mP p0.agenda a3.2).bind fun r4=>
  (iZ p0.due 0 n2).bind fun l5=>
  (cC l5).bind fun l6=>
  (iZ p0.due (aA .i64 (n2+1)) (Int.ofNat p0.due.length)).bind fun l7=>
  bif l7.isEmpty then
   some (aJ.mk r0.now r0.field r1 r4 l6)
  else
   (bK l6 l7).bind fun l8=>
   some (aJ.mk r0.now r0.field r1 r4 l8)
 else
  some (aJ.mk r0.now r0.field r1 r0.agenda r0.due)
noncomputable def sR (s:(Int×(List (Int×Int×Int))×(List (Int×Int×Int)))):Option (cA (Int×(List (Int×Int×Int))×(List (Int×Int×Int))) Bool):=
 bif decide (s.1<(Int.ofNat s.2.1.length)) then
  (aO s.2.1 s.1).bind fun a0=>
  (aO s.2.2 s.1).bind fun a1=>
  bif !((a0.1==a1.1)&&((a0.2.1==a1.2.1)&&(a0.2.2==a1.2.2))) then
   some (.done false)
  else
   some (.next (aA .i64 (s.1+1),s.2))
 else
  some (.done true)
noncomputable def F4 (p0:Field) (p1:Field):Option Bool:=
 bif (Int.ofNat p0.points.length) !=(Int.ofNat p1.points.length) then
  some false
 else
  aH sR (0,p0.points,p1.points)
noncomputable def iD (c0:(Int×(List Int)×(List Bool)×(List Int)×(List (Int×Int×Int×Int×Int))×(List Int))) (s:(Int×(List Int)×(List Bool)×(List Int)×(List (Int×Int×Int×Int×Int))×(List Int))):Option (cA (Int×(List Int)×(List Bool)×(List Int)×(List (Int×Int×Int×Int×Int))×(List Int)) (Int×(List Int)×(List Bool)×(List Int)×(List (Int×Int×Int×Int×Int))×(List Int))):=
 bif decide (0<s.1) then
  (aO s.2.2.2.2.1 s.1).bind fun a0=>
  (aO s.2.2.2.2.1 (aA .i64 (Int.tdiv (aA .i64 (s.1-1)) 2))).bind fun a1=>
  (eQ a0 a1).bind fun b2=>
  bif b2 then
   (gT (s.1,aA .i64 (Int.tdiv (aA .i64 (s.1-1)) 2),s.2)).bind fun a3=>
   some (.next (aA .i64 (Int.tdiv (aA .i64 (s.1-1)) 2),a3))
  else
   bif s.2.1.length==c0.2.1.length then
    bif s.2.2.1.length==c0.2.2.1.length then
     bif s.2.2.2.1.length==c0.2.2.2.1.length then
      bif s.2.2.2.2.1.length==c0.2.2.2.2.1.length then
       bif s.2.2.2.2.2.length==c0.2.2.2.2.2.length then
        some (.done s)
       else
        none
      else
       none
     else
      none
    else
     none
   else
    none
 else
  bif s.2.1.length==c0.2.1.length then
   bif s.2.2.1.length==c0.2.2.1.length then
    bif s.2.2.2.1.length==c0.2.2.2.1.length then
     bif s.2.2.2.2.1.length==c0.2.2.2.2.1.length then
      bif s.2.2.2.2.2.length==c0.2.2.2.2.2.length then
       some (.done s)
      else
       none
     else
      none
    else
     none
   else
    none
  else
   none
noncomputable def wM (a:(Int×(List Int)×(List Bool)×(List Int)×(List (Int×Int×Int×Int×Int))×(List Int))):Option (Int×(List Int)×(List Bool)×(List Int)×(List (Int×Int×Int×Int×Int))×(List Int)):=
 aH (iD a) a
noncomputable def kO (c0:(Int×(List Int)×(List Bool)×(List Int)×(List (Int×Int×Int×Int×Int))×(List Int))) (s:(Int×(List Int)×(List Bool)×(List Int)×(List (Int×Int×Int×Int×Int))×(List Int))):Option (cA (Int×(List Int)×(List Bool)×(List Int)×(List (Int×Int×Int×Int×Int))×(List Int)) ((List Int)×(List Bool)×(List Int)×(List (Int×Int×Int×Int×Int))×(List Int))):=
 bif decide ((Int.ofNat s.2.2.2.2.1.length)<=(aA .i64 ((aA .i64 (2*s.1))+1))) then
  bif s.2.1.length==c0.2.1.length then
   bif s.2.2.1.length==c0.2.2.1.length then
    bif s.2.2.2.1.length==c0.2.2.2.1.length then
     bif s.2.2.2.2.1.length==c0.2.2.2.2.1.length then
      bif s.2.2.2.2.2.length==c0.2.2.2.2.2.length then
       some (.done s.2)
      else
       none
     else
      none
    else
     none
   else
    none
  else
   none
 else
  bif decide ((aA .i64 ((aA .i64 ((aA .i64 (2*s.1))+1))+1))<(Int.ofNat s.2.2.2.2.1.length)) then
   (aO s.2.2.2.2.1 (aA .i64 ((aA .i64 ((aA .i64 (2*s.1))+1))+1))).bind fun a0=>
   (aO s.2.2.2.2.1 (aA .i64 ((aA .i64 (2*s.1))+1))).bind fun a1=>
   (eQ a0 a1).bind fun b2=>
   bif b2 then
    (aO s.2.2.2.2.1 (aA .i64 ((aA .i64 ((aA .i64 (2*s.1))+1))+1))).bind fun a3=>
    (aO s.2.2.2.2.1 s.1).bind fun a4=>
    (eQ a3 a4).bind fun b5=>
    bif !b5 then
     bif s.2.1.length==c0.2.1.length then
      bif s.2.2.1.length==c0.2.2.1.length then
       bif s.2.2.2.1.length==c0.2.2.2.1.length then
        bif s.2.2.2.2.1.length==c0.2.2.2.2.1.length then
         bif s.2.2.2.2.2.length==c0.2.2.2.2.2.length then
          some (.done s.2)
         else
          none
        else
         none
       else
        none
      else
       none
     else
      none
    else
     (gT (s.1,aA .i64 ((aA .i64 ((aA .i64 (2*s.1))+1))+1),s.2)).bind fun a6=>
     some (.next (aA .i64 ((aA .i64 ((aA .i64 (2*s.1))+1))+1),a6))
   else
    (aO s.2.2.2.2.1 (aA .i64 ((aA .i64 (2*s.1))+1))).bind fun a7=>
    (aO s.2.2.2.2.1 s.1).bind fun a8=>
    (eQ a7 a8).bind fun b9=>
    bif !b9 then
     bif s.2.1.length==c0.2.1.length then
      bif s.2.2.1.length==c0.2.2.1.length then
       bif s.2.2.2.1.length==c0.2.2.2.1.length then
        bif s.2.2.2.2.1.length==c0.2.2.2.2.1.length then
         bif s.2.2.2.2.2.length==c0.2.2.2.2.2.length then
          some (.done s.2)
         else
          none
        else
         none
       else
        none
      else
       none
     else
      none
    else
     (gT (s.1,aA .i64 ((aA .i64 (2*s.1))+1),s.2)).bind fun a10=>
     some (.next (aA .i64 ((aA .i64 (2*s.1))+1),a10))
  else
   (aO s.2.2.2.2.1 (aA .i64 ((aA .i64 (2*s.1))+1))).bind fun a11=>
   (aO s.2.2.2.2.1 s.1).bind fun a12=>
   (eQ a11 a12).bind fun b13=>
   bif !b13 then
    bif s.2.1.length==c0.2.1.length then
     bif s.2.2.1.length==c0.2.2.1.length then
      bif s.2.2.2.1.length==c0.2.2.2.1.length then
       bif s.2.2.2.2.1.length==c0.2.2.2.2.1.length then
        bif s.2.2.2.2.2.length==c0.2.2.2.2.2.length then
         some (.done s.2)
        else
         none
       else
        none
      else
       none
     else
      none
    else
     none
   else
    (gT (s.1,aA .i64 ((aA .i64 (2*s.1))+1),s.2)).bind fun a14=>
    some (.next (aA .i64 ((aA .i64 (2*s.1))+1),a14))
noncomputable def rZ (a:(Int×(List Int)×(List Bool)×(List Int)×(List (Int×Int×Int×Int×Int))×(List Int))):Option ((List Int)×(List Bool)×(List Int)×(List (Int×Int×Int×Int×Int))×(List Int)):=
 aH (kO a) a
noncomputable def yR (p0:aG) (p1:Int×Int) (p2:Int×Int):Option aG:=
 (rW p0).bind fun r0=>
 (aO r0.where_ p1.1).bind fun n1=>
 (aO r0.heap n1).bind fun a2=>
 (wM (n1,r0.slots.uses,r0.slots.used,r0.slots.free,bZ r0.heap n1 (p2.1,p2.2,a2.2.2),r0.where_)).bind fun a3=>
 (rZ a3).bind fun a4=>
 some (aG.mk (aR.mk a4.1 a4.2.1 a4.2.2.1) a4.2.2.2.1 a4.2.2.2.2)
noncomputable def iK (p0:aR):Option Bool:=
 bif decide (0<(Int.ofNat p0.free.length)) then
  (aO p0.free (aA .i64 ((Int.ofNat p0.free.length) -1))).bind fun n0=>
  (aO p0.uses n0).bind fun n1=>
  some (decide (n1<1000000))
 else
  some false
noncomputable def DH (p0:aR):Option (aR×(Int×Int)):=
 (wL p0).bind fun r0=>
 (aO r0.free (aA .i64 ((Int.ofNat r0.free.length) -1))).bind fun n1=>
 (iZ r0.free 0 (aA .i64 ((Int.ofNat r0.free.length) -1))).bind fun l2=>
 (aO r0.uses n1).bind fun n3=>
 (aO r0.uses n1).bind fun n4=>
 (aO r0.used n1).bind fun b5=>
 (aO (bZ r0.uses n1 (aA .i64 (n3+1))) n1).bind fun n6=>
 some (aR.mk (bZ r0.uses n1 (aA .i64 (n3+1))) (bZ r0.used n1 true) (r0.free.take ((aA .i64 ((Int.ofNat r0.free.length) -1)).toNat)),n1,n6)
noncomputable def sA (a:((List Int)×(List Bool)×(List Int)×Int×Int×(List (Int×Int×Int×Int×Int))×(List Int))):Option ((List (Int×Int×Int×Int×Int))×(List Int)):=
 (aO a.2.2.2.2.2.1 a.2.2.2.2.1).bind fun a0=>
 (aO a.2.2.2.2.2.1 a.2.2.2.1).bind fun a1=>
 (aO a.2.2.2.2.2.1 a.2.2.2.1).bind fun a2=>
 (aO (bZ a.2.2.2.2.2.1 a.2.2.2.1 a0) a.2.2.2.2.1).bind fun a3=>
 (aO (bZ (bZ a.2.2.2.2.2.1 a.2.2.2.1 a0) a.2.2.2.2.1 a1) a.2.2.2.1).bind fun a4=>
 (aO (bZ (bZ a.2.2.2.2.2.1 a.2.2.2.1 a0) a.2.2.2.2.1 a1) a.2.2.2.2.1).bind fun a5=>
 (aO a.2.2.2.2.2.2 a4.2.2.2.1).bind fun n6=>
 (aO (bZ a.2.2.2.2.2.2 a4.2.2.2.1 a.2.2.2.1) a5.2.2.2.1).bind fun n7=>
 bif ((bZ (bZ a.2.2.2.2.2.1 a.2.2.2.1 a0) a.2.2.2.2.1 a1).length)==a.2.2.2.2.2.1.length then
  bif ((bZ (bZ a.2.2.2.2.2.2 a4.2.2.2.1 a.2.2.2.1) a5.2.2.2.1 a.2.2.2.2.1).length)==a.2.2.2.2.2.2.length then
   some (bZ (bZ a.2.2.2.2.2.1 a.2.2.2.1 a0) a.2.2.2.2.1 a1,bZ (bZ a.2.2.2.2.2.2 a4.2.2.2.1 a.2.2.2.1) a5.2.2.2.1 a.2.2.2.2.1)
  else
   none
 else
  none
noncomputable def iE (c0:((List Int)×(List Bool)×(List Int)×Int×(List (Int×Int×Int×Int×Int))×(List Int))) (s:(Int×(List (Int×Int×Int×Int×Int))×(List Int)×(List Int)×(List Bool)×(List Int))):Option (cA (Int×(List (Int×Int×Int×Int×Int))×(List Int)×(List Int)×(List Bool)×(List Int)) (Int×(List (Int×Int×Int×Int×Int))×(List Int))):=
 bif decide (0<s.1) then
  (aO s.2.1 s.1).bind fun a0=>
  (aO s.2.1 (aA .i64 (Int.tdiv (aA .i64 (s.1-1)) 2))).bind fun a1=>
  (eQ a0 a1).bind fun b2=>
  bif b2 then
   (sA (s.2.2.2.1,s.2.2.2.2.1,s.2.2.2.2.2,s.1,aA .i64 (Int.tdiv (aA .i64 (s.1-1)) 2),s.2.1,s.2.2.1)).bind fun a3=>
   some (.next (aA .i64 (Int.tdiv (aA .i64 (s.1-1)) 2),a3.1,a3.2,s.2.2.2))
  else
   bif s.2.1.length==c0.2.2.2.2.1.length then
    bif s.2.2.1.length==c0.2.2.2.2.2.length then
     some (.done (s.1,s.2.1,s.2.2.1))
    else
     none
   else
    none
 else
  bif s.2.1.length==c0.2.2.2.2.1.length then
   bif s.2.2.1.length==c0.2.2.2.2.2.length then
    some (.done (s.1,s.2.1,s.2.2.1))
   else
    none
  else
   none
noncomputable def wN (a:((List Int)×(List Bool)×(List Int)×Int×(List (Int×Int×Int×Int×Int))×(List Int))):Option (Int×(List (Int×Int×Int×Int×Int))×(List Int)):=
 aH (iE a) (a.2.2.2.1,a.2.2.2.2.1,a.2.2.2.2.2,a.1,a.2.1,a.2.2.1)
noncomputable def fN (p0:aG) (p1:Int×Int) (p2:Int):Option (aG×(Int×Int)):=
 (rW p0).bind fun r0=>
 (DH r0.slots).bind fun a1=>
 (bK r0.heap [(p1.1,p1.2,p2,a1.2)]).bind fun l2=>
 (aO r0.where_ a1.2.1).bind fun n3=>
 (wN (a1.1.uses,a1.1.used,a1.1.free,aA .i64 ((Int.ofNat l2.length) -1),l2,bZ r0.where_ a1.2.1 (aA .i64 ((Int.ofNat l2.length) -1)))).bind fun a4=>
 some (aG.mk a1.1 a4.2.1 a4.2.2,a1.2)
noncomputable def cP (s:(Int×Int×Int×(List (Int×Int×Int))×Int×(List (Int×Int×Int))×(List Int)×(List Bool)×(List Int)×(List (Int×Int×Int×Int×Int))×(List Int)×(List (Int×Int×Int))×(List (Int×Int×Int))×Int×Int×Int×Int×Int×(List (Int×Int×Int))×Int×(List (Int×Int×Int))×(List Int)×(List Bool)×(List Int)×(List (Int×Int×Int×Int×Int))×(List Int)×(List (Int×Int×Int)))):Option (cA (Int×Int×Int×(List (Int×Int×Int))×Int×(List (Int×Int×Int))×(List Int)×(List Bool)×(List Int)×(List (Int×Int×Int×Int×Int))×(List Int)×(List (Int×Int×Int))×(List (Int×Int×Int))×Int×Int×Int×Int×Int×(List (Int×Int×Int))×Int×(List (Int×Int×Int))×(List Int)×(List Bool)×(List Int)×(List (Int×Int×Int×Int×Int))×(List Int)×(List (Int×Int×Int))) (aJ×Int)):=
 bif decide (s.1<(Int.ofNat s.2.2.2.2.2.1.length)) then
  (aO s.2.2.2.2.2.1 s.1).bind fun a0=>
  (uA (aJ.mk (s.2.1,s.2.2.1) (Field.mk s.2.2.2.1) (aU.mk s.2.2.2.2.1 s.2.2.2.2.2.1) (aG.mk (aR.mk s.2.2.2.2.2.2.1 s.2.2.2.2.2.2.2.1 s.2.2.2.2.2.2.2.2.1) s.2.2.2.2.2.2.2.2.2.1 s.2.2.2.2.2.2.2.2.2.2.1) s.2.2.2.2.2.2.2.2.2.2.2.1) a0.1).bind fun n1=>
  (rT (Field.mk s.2.2.2.2.2.2.2.2.2.2.2.2.1) a0.2 (s.2.1,s.2.2.1)).bind fun a2=>
  bif a2.2 then
   bif decide (0<=n1) then
    (aO s.2.2.2.2.2.2.2.2.2.2.2.1 n1).bind fun a3=>
    (yR (aG.mk (aR.mk s.2.2.2.2.2.2.2.2.2.2.2.2.2.2.2.2.2.2.2.2.2.1 s.2.2.2.2.2.2.2.2.2.2.2.2.2.2.2.2.2.2.2.2.2.2.1 s.2.2.2.2.2.2.2.2.2.2.2.2.2.2.2.2.2.2.2.2.2.2.2.1) s.2.2.2.2.2.2.2.2.2.2.2.2.2.2.2.2.2.2.2.2.2.2.2.2.1 s.2.2.2.2.2.2.2.2.2.2.2.2.2.2.2.2.2.2.2.2.2.2.2.2.2.1) a3.2 a2.1).bind fun r4=>
    (aO s.2.2.2.2.2.2.2.2.2.2.2.1 n1).bind fun a5=>
    (bK s.2.2.2.2.2.2.2.2.2.2.2.2.2.2.2.2.2.2.2.2.2.2.2.2.2.2 [a5]).bind fun l6=>
    bif !a2.2 then
     bif decide (0<=n1) then
      (aO s.2.2.2.2.2.2.2.2.2.2.2.1 n1).bind fun a7=>
      (mP r4 a7.2).bind fun r8=>
      bif !a2.2 then
       some (.next (aA .i64 (s.1+1),s.2.1,s.2.2.1,s.2.2.2.1,s.2.2.2.2.1,s.2.2.2.2.2.1,s.2.2.2.2.2.2.1,s.2.2.2.2.2.2.2.1,s.2.2.2.2.2.2.2.2.1,s.2.2.2.2.2.2.2.2.2.1,s.2.2.2.2.2.2.2.2.2.2.1,s.2.2.2.2.2.2.2.2.2.2.2.1,s.2.2.2.2.2.2.2.2.2.2.2.2.1,s.2.2.2.2.2.2.2.2.2.2.2.2.2.1,s.2.2.2.2.2.2.2.2.2.2.2.2.2.2.1,s.2.2.2.2.2.2.2.2.2.2.2.2.2.2.2.1,s.2.2.2.2.2.2.2.2.2.2.2.2.2.2.2.2.1,s.2.2.2.2.2.2.2.2.2.2.2.2.2.2.2.2.2.1,s.2.2.2.2.2.2.2.2.2.2.2.2.2.2.2.2.2.2.1,s.2.2.2.2.2.2.2.2.2.2.2.2.2.2.2.2.2.2.2.1,s.2.2.2.2.2.2.2.2.2.2.2.2.2.2.2.2.2.2.2.2.1,r8.slots.uses,r8.slots.used,r8.slots.free,r8.heap,r8.where_,l6))
      else
       bif decide (0<=n1) then
        some (.next (aA .i64 (s.1+1),s.2.1,s.2.2.1,s.2.2.2.1,s.2.2.2.2.1,s.2.2.2.2.2.1,s.2.2.2.2.2.2.1,s.2.2.2.2.2.2.2.1,s.2.2.2.2.2.2.2.2.1,s.2.2.2.2.2.2.2.2.2.1,s.2.2.2.2.2.2.2.2.2.2.1,s.2.2.2.2.2.2.2.2.2.2.2.1,s.2.2.2.2.2.2.2.2.2.2.2.2.1,s.2.2.2.2.2.2.2.2.2.2.2.2.2.1,s.2.2.2.2.2.2.2.2.2.2.2.2.2.2.1,s.2.2.2.2.2.2.2.2.2.2.2.2.2.2.2.1,s.2.2.2.2.2.2.2.2.2.2.2.2.2.2.2.2.1,s.2.2.2.2.2.2.2.2.2.2.2.2.2.2.2.2.2.1,s.2.2.2.2.2.2.2.2.2.2.2.2.2.2.2.2.2.2.1,s.2.2.2.2.2.2.2.2.2.2.2.2.2.2.2.2.2.2.2.1,s.2.2.2.2.2.2.2.2.2.2.2.2.2.2.2.2.2.2.2.2.1,r8.slots.uses,r8.slots.used,r8.slots.free,r8.heap,r8.where_,l6))
       else
        (iK r8.slots).bind fun b9=>
        bif !b9 then
         some (.done (aJ.mk (0,0) (Field.mk []) (aU.mk 0 []) (aG.mk (aR.mk [] [] []) [] []) [],18))
        else
         (fN r8 a2.1 a0.1).bind fun a10=>
         (bK l6 [(a0.1,a10.2)]).bind fun l11=>
         some (.next (aA .i64 (s.1+1),s.2.1,s.2.2.1,s.2.2.2.1,s.2.2.2.2.1,s.2.2.2.2.2.1,s.2.2.2.2.2.2.1,s.2.2.2.2.2.2.2.1,s.2.2.2.2.2.2.2.2.1,s.2.2.2.2.2.2.2.2.2.1,s.2.2.2.2.2.2.2.2.2.2.1,s.2.2.2.2.2.2.2.2.2.2.2.1,s.2.2.2.2.2.2.2.2.2.2.2.2.1,s.2.2.2.2.2.2.2.2.2.2.2.2.2.1,s.2.2.2.2.2.2.2.2.2.2.2.2.2.2.1,s.2.2.2.2.2.2.2.2.2.2.2.2.2.2.2.1,s.2.2.2.2.2.2.2.2.2.2.2.2.2.2.2.2.1,s.2.2.2.2.2.2.2.2.2.2.2.2.2.2.2.2.2.1,s.2.2.2.2.2.2.2.2.2.2.2.2.2.2.2.2.2.2.1,s.2.2.2.2.2.2.2.2.2.2.2.2.2.2.2.2.2.2.2.1,s.2.2.2.2.2.2.2.2.2.2.2.2.2.2.2.2.2.2.2.2.1,a10.1.slots.uses,a10.1.slots.used,a10.1.slots.free,a10.1.heap,a10.1.where_,l11))
     else
      bif !a2.2 then
       some (.next (aA .i64 (s.1+1),s.2.1,s.2.2.1,s.2.2.2.1,s.2.2.2.2.1,s.2.2.2.2.2.1,s.2.2.2.2.2.2.1,s.2.2.2.2.2.2.2.1,s.2.2.2.2.2.2.2.2.1,s.2.2.2.2.2.2.2.2.2.1,s.2.2.2.2.2.2.2.2.2.2.1,s.2.2.2.2.2.2.2.2.2.2.2.1,s.2.2.2.2.2.2.2.2.2.2.2.2.1,s.2.2.2.2.2.2.2.2.2.2.2.2.2.1,s.2.2.2.2.2.2.2.2.2.2.2.2.2.2.1,s.2.2.2.2.2.2.2.2.2.2.2.2.2.2.2.1,s.2.2.2.2.2.2.2.2.2.2.2.2.2.2.2.2.1,s.2.2.2.2.2.2.2.2.2.2.2.2.2.2.2.2.2.1,s.2.2.2.2.2.2.2.2.2.2.2.2.2.2.2.2.2.2.1,s.2.2.2.2.2.2.2.2.2.2.2.2.2.2.2.2.2.2.2.1,s.2.2.2.2.2.2.2.2.2.2.2.2.2.2.2.2.2.2.2.2.1,r4.slots.uses,r4.slots.used,r4.slots.free,r4.heap,r4.where_,l6))
      else
       bif decide (0<=n1) then
        some (.next (aA .i64 (s.1+1),s.2.1,s.2.2.1,s.2.2.2.1,s.2.2.2.2.1,s.2.2.2.2.2.1,s.2.2.2.2.2.2.1,s.2.2.2.2.2.2.2.1,s.2.2.2.2.2.2.2.2.1,s.2.2.2.2.2.2.2.2.2.1,s.2.2.2.2.2.2.2.2.2.2.1,s.2.2.2.2.2.2.2.2.2.2.2.1,s.2.2.2.2.2.2.2.2.2.2.2.2.1,s.2.2.2.2.2.2.2.2.2.2.2.2.2.1,s.2.2.2.2.2.2.2.2.2.2.2.2.2.2.1,s.2.2.2.2.2.2.2.2.2.2.2.2.2.2.2.1,s.2.2.2.2.2.2.2.2.2.2.2.2.2.2.2.2.1,s.2.2.2.2.2.2.2.2.2.2.2.2.2.2.2.2.2.1,s.2.2.2.2.2.2.2.2.2.2.2.2.2.2.2.2.2.2.1,s.2.2.2.2.2.2.2.2.2.2.2.2.2.2.2.2.2.2.2.1,s.2.2.2.2.2.2.2.2.2.2.2.2.2.2.2.2.2.2.2.2.1,r4.slots.uses,r4.slots.used,r4.slots.free,r4.heap,r4.where_,l6))
       else
        (iK r4.slots).bind fun b12=>
        bif !b12 then
         some (.done (aJ.mk (0,0) (Field.mk []) (aU.mk 0 []) (aG.mk (aR.mk [] [] []) [] []) [],18))
        else
         (fN r4 a2.1 a0.1).bind fun a13=>
         (bK l6 [(a0.1,a13.2)]).bind fun l14=>
         some (.next (aA .i64 (s.1+1),s.2.1,s.2.2.1,s.2.2.2.1,s.2.2.2.2.1,s.2.2.2.2.2.1,s.2.2.2.2.2.2.1,s.2.2.2.2.2.2.2.1,s.2.2.2.2.2.2.2.2.1,s.2.2.2.2.2.2.2.2.2.1,s.2.2.2.2.2.2.2.2.2.2.1,s.2.2.2.2.2.2.2.2.2.2.2.1,s.2.2.2.2.2.2.2.2.2.2.2.2.1,s.2.2.2.2.2.2.2.2.2.2.2.2.2.1,s.2.2.2.2.2.2.2.2.2.2.2.2.2.2.1,s.2.2.2.2.2.2.2.2.2.2.2.2.2.2.2.1,s.2.2.2.2.2.2.2.2.2.2.2.2.2.2.2.2.1,s.2.2.2.2.2.2.2.2.2.2.2.2.2.2.2.2.2.1,s.2.2.2.2.2.2.2.2.2.2.2.2.2.2.2.2.2.2.1,s.2.2.2.2.2.2.2.2.2.2.2.2.2.2.2.2.2.2.2.1,s.2.2.2.2.2.2.2.2.2.2.2.2.2.2.2.2.2.2.2.2.1,a13.1.slots.uses,a13.1.slots.used,a13.1.slots.free,a13.1.heap,a13.1.where_,l14))
    else
     bif !a2.2 then
      some (.next (aA .i64 (s.1+1),s.2.1,s.2.2.1,s.2.2.2.1,s.2.2.2.2.1,s.2.2.2.2.2.1,s.2.2.2.2.2.2.1,s.2.2.2.2.2.2.2.1,s.2.2.2.2.2.2.2.2.1,s.2.2.2.2.2.2.2.2.2.1,s.2.2.2.2.2.2.2.2.2.2.1,s.2.2.2.2.2.2.2.2.2.2.2.1,s.2.2.2.2.2.2.2.2.2.2.2.2.1,s.2.2.2.2.2.2.2.2.2.2.2.2.2.1,s.2.2.2.2.2.2.2.2.2.2.2.2.2.2.1,s.2.2.2.2.2.2.2.2.2.2.2.2.2.2.2.1,s.2.2.2.2.2.2.2.2.2.2.2.2.2.2.2.2.1,s.2.2.2.2.2.2.2.2.2.2.2.2.2.2.2.2.2.1,s.2.2.2.2.2.2.2.2.2.2.2.2.2.2.2.2.2.2.1,s.2.2.2.2.2.2.2.2.2.2.2.2.2.2.2.2.2.2.2.1,s.2.2.2.2.2.2.2.2.2.2.2.2.2.2.2.2.2.2.2.2.1,r4.slots.uses,r4.slots.used,r4.slots.free,r4.heap,r4.where_,l6))
     else
      bif decide (0<=n1) then
       some (.next (aA .i64 (s.1+1),s.2.1,s.2.2.1,s.2.2.2.1,s.2.2.2.2.1,s.2.2.2.2.2.1,s.2.2.2.2.2.2.1,s.2.2.2.2.2.2.2.1,s.2.2.2.2.2.2.2.2.1,s.2.2.2.2.2.2.2.2.2.1,s.2.2.2.2.2.2.2.2.2.2.1,s.2.2.2.2.2.2.2.2.2.2.2.1,s.2.2.2.2.2.2.2.2.2.2.2.2.1,s.2.2.2.2.2.2.2.2.2.2.2.2.2.1,s.2.2.2.2.2.2.2.2.2.2.2.2.2.2.1,s.2.2.2.2.2.2.2.2.2.2.2.2.2.2.2.1,s.2.2.2.2.2.2.2.2.2.2.2.2.2.2.2.2.1,s.2.2.2.2.2.2.2.2.2.2.2.2.2.2.2.2.2.1,s.2.2.2.2.2.2.2.2.2.2.2.2.2.2.2.2.2.2.1,s.2.2.2.2.2.2.2.2.2.2.2.2.2.2.2.2.2.2.2.1,s.2.2.2.2.2.2.2.2.2.2.2.2.2.2.2.2.2.2.2.2.1,r4.slots.uses,r4.slots.used,r4.slots.free,r4.heap,r4.where_,l6))
      else
       (iK r4.slots).bind fun b15=>
       bif !b15 then
        some (.done (aJ.mk (0,0) (Field.mk []) (aU.mk 0 []) (aG.mk (aR.mk [] [] []) [] []) [],18))
       else
        (fN r4 a2.1 a0.1).bind fun a16=>
        (bK l6 [(a0.1,a16.2)]).bind fun l17=>
        some (.next (aA .i64 (s.1+1),s.2.1,s.2.2.1,s.2.2.2.1,s.2.2.2.2.1,s.2.2.2.2.2.1,s.2.2.2.2.2.2.1,s.2.2.2.2.2.2.2.1,s.2.2.2.2.2.2.2.2.1,s.2.2.2.2.2.2.2.2.2.1,s.2.2.2.2.2.2.2.2.2.2.1,s.2.2.2.2.2.2.2.2.2.2.2.1,s.2.2.2.2.2.2.2.2.2.2.2.2.1,s.2.2.2.2.2.2.2.2.2.2.2.2.2.1,s.2.2.2.2.2.2.2.2.2.2.2.2.2.2.1,s.2.2.2.2.2.2.2.2.2.2.2.2.2.2.2.1,s.2.2.2.2.2.2.2.2.2.2.2.2.2.2.2.2.1,s.2.2.2.2.2.2.2.2.2.2.2.2.2.2.2.2.2.1,s.2.2.2.2.2.2.2.2.2.2.2.2.2.2.2.2.2.2.1,s.2.2.2.2.2.2.2.2.2.2.2.2.2.2.2.2.2.2.2.1,s.2.2.2.2.2.2.2.2.2.2.2.2.2.2.2.2.2.2.2.2.1,a16.1.slots.uses,a16.1.slots.used,a16.1.slots.free,a16.1.heap,a16.1.where_,l17))
   else
    bif !a2.2 then
     bif decide (0<=n1) then
      (aO s.2.2.2.2.2.2.2.2.2.2.2.1 n1).bind fun a18=>
      (mP (aG.mk (aR.mk s.2.2.2.2.2.2.2.2.2.2.2.2.2.2.2.2.2.2.2.2.2.1 s.2.2.2.2.2.2.2.2.2.2.2.2.2.2.2.2.2.2.2.2.2.2.1 s.2.2.2.2.2.2.2.2.2.2.2.2.2.2.2.2.2.2.2.2.2.2.2.1) s.2.2.2.2.2.2.2.2.2.2.2.2.2.2.2.2.2.2.2.2.2.2.2.2.1 s.2.2.2.2.2.2.2.2.2.2.2.2.2.2.2.2.2.2.2.2.2.2.2.2.2.1) a18.2).bind fun r19=>
      bif !a2.2 then
       some (.next (aA .i64 (s.1+1),s.2.1,s.2.2.1,s.2.2.2.1,s.2.2.2.2.1,s.2.2.2.2.2.1,s.2.2.2.2.2.2.1,s.2.2.2.2.2.2.2.1,s.2.2.2.2.2.2.2.2.1,s.2.2.2.2.2.2.2.2.2.1,s.2.2.2.2.2.2.2.2.2.2.1,s.2.2.2.2.2.2.2.2.2.2.2.1,s.2.2.2.2.2.2.2.2.2.2.2.2.1,s.2.2.2.2.2.2.2.2.2.2.2.2.2.1,s.2.2.2.2.2.2.2.2.2.2.2.2.2.2.1,s.2.2.2.2.2.2.2.2.2.2.2.2.2.2.2.1,s.2.2.2.2.2.2.2.2.2.2.2.2.2.2.2.2.1,s.2.2.2.2.2.2.2.2.2.2.2.2.2.2.2.2.2.1,s.2.2.2.2.2.2.2.2.2.2.2.2.2.2.2.2.2.2.1,s.2.2.2.2.2.2.2.2.2.2.2.2.2.2.2.2.2.2.2.1,s.2.2.2.2.2.2.2.2.2.2.2.2.2.2.2.2.2.2.2.2.1,r19.slots.uses,r19.slots.used,r19.slots.free,r19.heap,r19.where_,s.2.2.2.2.2.2.2.2.2.2.2.2.2.2.2.2.2.2.2.2.2.2.2.2.2.2))
      else
       bif decide (0<=n1) then
        some (.next (aA .i64 (s.1+1),s.2.1,s.2.2.1,s.2.2.2.1,s.2.2.2.2.1,s.2.2.2.2.2.1,s.2.2.2.2.2.2.1,s.2.2.2.2.2.2.2.1,s.2.2.2.2.2.2.2.2.1,s.2.2.2.2.2.2.2.2.2.1,s.2.2.2.2.2.2.2.2.2.2.1,s.2.2.2.2.2.2.2.2.2.2.2.1,s.2.2.2.2.2.2.2.2.2.2.2.2.1,s.2.2.2.2.2.2.2.2.2.2.2.2.2.1,s.2.2.2.2.2.2.2.2.2.2.2.2.2.2.1,s.2.2.2.2.2.2.2.2.2.2.2.2.2.2.2.1,s.2.2.2.2.2.2.2.2.2.2.2.2.2.2.2.2.1,s.2.2.2.2.2.2.2.2.2.2.2.2.2.2.2.2.2.1,s.2.2.2.2.2.2.2.2.2.2.2.2.2.2.2.2.2.2.1,s.2.2.2.2.2.2.2.2.2.2.2.2.2.2.2.2.2.2.2.1,s.2.2.2.2.2.2.2.2.2.2.2.2.2.2.2.2.2.2.2.2.1,r19.slots.uses,r19.slots.used,r19.slots.free,r19.heap,r19.where_,s.2.2.2.2.2.2.2.2.2.2.2.2.2.2.2.2.2.2.2.2.2.2.2.2.2.2))
       else
        (iK r19.slots).bind fun b20=>
        bif !b20 then
         some (.done (aJ.mk (0,0) (Field.mk []) (aU.mk 0 []) (aG.mk (aR.mk [] [] []) [] []) [],18))
        else
         (fN r19 a2.1 a0.1).bind fun a21=>
         (bK s.2.2.2.2.2.2.2.2.2.2.2.2.2.2.2.2.2.2.2.2.2.2.2.2.2.2 [(a0.1,a21.2)]).bind fun l22=>
         some (.next (aA .i64 (s.1+1),s.2.1,s.2.2.1,s.2.2.2.1,s.2.2.2.2.1,s.2.2.2.2.2.1,s.2.2.2.2.2.2.1,s.2.2.2.2.2.2.2.1,s.2.2.2.2.2.2.2.2.1,s.2.2.2.2.2.2.2.2.2.1,s.2.2.2.2.2.2.2.2.2.2.1,s.2.2.2.2.2.2.2.2.2.2.2.1,s.2.2.2.2.2.2.2.2.2.2.2.2.1,s.2.2.2.2.2.2.2.2.2.2.2.2.2.1,s.2.2.2.2.2.2.2.2.2.2.2.2.2.2.1,s.2.2.2.2.2.2.2.2.2.2.2.2.2.2.2.1,s.2.2.2.2.2.2.2.2.2.2.2.2.2.2.2.2.1,s.2.2.2.2.2.2.2.2.2.2.2.2.2.2.2.2.2.1,s.2.2.2.2.2.2.2.2.2.2.2.2.2.2.2.2.2.2.1,s.2.2.2.2.2.2.2.2.2.2.2.2.2.2.2.2.2.2.2.1,s.2.2.2.2.2.2.2.2.2.2.2.2.2.2.2.2.2.2.2.2.1,a21.1.slots.uses,a21.1.slots.used,a21.1.slots.free,a21.1.heap,a21.1.where_,l22))
     else
      bif !a2.2 then
       some (.next (aA .i64 (s.1+1),s.2))
      else
       bif decide (0<=n1) then
        some (.next (aA .i64 (s.1+1),s.2))
       else
        (iK (aR.mk s.2.2.2.2.2.2.2.2.2.2.2.2.2.2.2.2.2.2.2.2.2.1 s.2.2.2.2.2.2.2.2.2.2.2.2.2.2.2.2.2.2.2.2.2.2.1 s.2.2.2.2.2.2.2.2.2.2.2.2.2.2.2.2.2.2.2.2.2.2.2.1)).bind fun b23=>
        bif !b23 then
         some (.done (aJ.mk (0,0) (Field.mk []) (aU.mk 0 []) (aG.mk (aR.mk [] [] []) [] []) [],18))
        else
         (fN (aG.mk (aR.mk s.2.2.2.2.2.2.2.2.2.2.2.2.2.2.2.2.2.2.2.2.2.1 s.2.2.2.2.2.2.2.2.2.2.2.2.2.2.2.2.2.2.2.2.2.2.1 s.2.2.2.2.2.2.2.2.2.2.2.2.2.2.2.2.2.2.2.2.2.2.2.1) s.2.2.2.2.2.2.2.2.2.2.2.2.2.2.2.2.2.2.2.2.2.2.2.2.1 s.2.2.2.2.2.2.2.2.2.2.2.2.2.2.2.2.2.2.2.2.2.2.2.2.2.1) a2.1 a0.1).bind fun a24=>
         (bK s.2.2.2.2.2.2.2.2.2.2.2.2.2.2.2.2.2.2.2.2.2.2.2.2.2.2 [(a0.1,a24.2)]).bind fun l25=>
         some (.next (aA .i64 (s.1+1),s.2.1,s.2.2.1,s.2.2.2.1,s.2.2.2.2.1,s.2.2.2.2.2.1,s.2.2.2.2.2.2.1,s.2.2.2.2.2.2.2.1,s.2.2.2.2.2.2.2.2.1,s.2.2.2.2.2.2.2.2.2.1,s.2.2.2.2.2.2.2.2.2.2.1,s.2.2.2.2.2.2.2.2.2.2.2.1,s.2.2.2.2.2.2.2.2.2.2.2.2.1,s.2.2.2.2.2.2.2.2.2.2.2.2.2.1,s.2.2.2.2.2.2.2.2.2.2.2.2.2.2.1,s.2.2.2.2.2.2.2.2.2.2.2.2.2.2.2.1,s.2.2.2.2.2.2.2.2.2.2.2.2.2.2.2.2.1,s.2.2.2.2.2.2.2.2.2.2.2.2.2.2.2.2.2.1,s.2.2.2.2.2.2.2.2.2.2.2.2.2.2.2.2.2.2.1,s.2.2.2.2.2.2.2.2.2.2.2.2.2.2.2.2.2.2.2.1,s.2.2.2.2.2.2.2.2.2.2.2.2.2.2.2.2.2.2.2.2.1,a24.1.slots.uses,a24.1.slots.used,a24.1.slots.free,a24.1.heap,a24.1.where_,l25))
    else
     bif !a2.2 then
      some (.next (aA .i64 (s.1+1),s.2))
     else
      bif decide (0<=n1) then
       some (.next (aA .i64 (s.1+1),s.2))
      else
       (iK (aR.mk s.2.2.2.2.2.2.2.2.2.2.2.2.2.2.2.2.2.2.2.2.2.1 s.2.2.2.2.2.2.2.2.2.2.2.2.2.2.2.2.2.2.2.2.2.2.1 s.2.2.2.2.2.2.2.2.2.2.2.2.2.2.2.2.2.2.2.2.2.2.2.1)).bind fun b26=>
       bif !b26 then
        some (.done (aJ.mk (0,0) (Field.mk []) (aU.mk 0 []) (aG.mk (aR.mk [] [] []) [] []) [],18))
       else
        (fN (aG.mk (aR.mk s.2.2.2.2.2.2.2.2.2.2.2.2.2.2.2.2.2.2.2.2.2.1 s.2.2.2.2.2.2.2.2.2.2.2.2.2.2.2.2.2.2.2.2.2.2.1 s.2.2.2.2.2.2.2.2.2.2.2.2.2.2.2.2.2.2.2.2.2.2.2.1) s.2.2.2.2.2.2.2.2.2.2.2.2.2.2.2.2.2.2.2.2.2.2.2.2.1 s.2.2.2.2.2.2.2.2.2.2.2.2.2.2.2.2.2.2.2.2.2.2.2.2.2.1) a2.1 a0.1).bind fun a27=>
        (bK s.2.2.2.2.2.2.2.2.2.2.2.2.2.2.2.2.2.2.2.2.2.2.2.2.2.2 [(a0.1,a27.2)]).bind fun l28=>
        some (.next (aA .i64 (s.1+1),s.2.1,s.2.2.1,s.2.2.2.1,s.2.2.2.2.1,s.2.2.2.2.2.1,s.2.2.2.2.2.2.1,s.2.2.2.2.2.2.2.1,s.2.2.2.2.2.2.2.2.1,s.2.2.2.2.2.2.2.2.2.1,s.2.2.2.2.2.2.2.2.2.2.1,s.2.2.2.2.2.2.2.2.2.2.2.1,s.2.2.2.2.2.2.2.2.2.2.2.2.1,s.2.2.2.2.2.2.2.2.2.2.2.2.2.1,s.2.2.2.2.2.2.2.2.2.2.2.2.2.2.1,s.2.2.2.2.2.2.2.2.2.2.2.2.2.2.2.1,s.2.2.2.2.2.2.2.2.2.2.2.2.2.2.2.2.1,s.2.2.2.2.2.2.2.2.2.2.2.2.2.2.2.2.2.1,s.2.2.2.2.2.2.2.2.2.2.2.2.2.2.2.2.2.2.1,s.2.2.2.2.2.2.2.2.2.2.2.2.2.2.2.2.2.2.2.1,s.2.2.2.2.2.2.2.2.2.2.2.2.2.2.2.2.2.2.2.2.1,a27.1.slots.uses,a27.1.slots.used,a27.1.slots.free,a27.1.heap,a27.1.where_,l28))
  else
   bif !a2.2 then
    bif decide (0<=n1) then
     (aO s.2.2.2.2.2.2.2.2.2.2.2.1 n1).bind fun a29=>
     (mP (aG.mk (aR.mk s.2.2.2.2.2.2.2.2.2.2.2.2.2.2.2.2.2.2.2.2.2.1 s.2.2.2.2.2.2.2.2.2.2.2.2.2.2.2.2.2.2.2.2.2.2.1 s.2.2.2.2.2.2.2.2.2.2.2.2.2.2.2.2.2.2.2.2.2.2.2.1) s.2.2.2.2.2.2.2.2.2.2.2.2.2.2.2.2.2.2.2.2.2.2.2.2.1 s.2.2.2.2.2.2.2.2.2.2.2.2.2.2.2.2.2.2.2.2.2.2.2.2.2.1) a29.2).bind fun r30=>
     bif !a2.2 then
      some (.next (aA .i64 (s.1+1),s.2.1,s.2.2.1,s.2.2.2.1,s.2.2.2.2.1,s.2.2.2.2.2.1,s.2.2.2.2.2.2.1,s.2.2.2.2.2.2.2.1,s.2.2.2.2.2.2.2.2.1,s.2.2.2.2.2.2.2.2.2.1,s.2.2.2.2.2.2.2.2.2.2.1,s.2.2.2.2.2.2.2.2.2.2.2.1,s.2.2.2.2.2.2.2.2.2.2.2.2.1,s.2.2.2.2.2.2.2.2.2.2.2.2.2.1,s.2.2.2.2.2.2.2.2.2.2.2.2.2.2.1,s.2.2.2.2.2.2.2.2.2.2.2.2.2.2.2.1,s.2.2.2.2.2.2.2.2.2.2.2.2.2.2.2.2.1,s.2.2.2.2.2.2.2.2.2.2.2.2.2.2.2.2.2.1,s.2.2.2.2.2.2.2.2.2.2.2.2.2.2.2.2.2.2.1,s.2.2.2.2.2.2.2.2.2.2.2.2.2.2.2.2.2.2.2.1,s.2.2.2.2.2.2.2.2.2.2.2.2.2.2.2.2.2.2.2.2.1,r30.slots.uses,r30.slots.used,r30.slots.free,r30.heap,r30.where_,s.2.2.2.2.2.2.2.2.2.2.2.2.2.2.2.2.2.2.2.2.2.2.2.2.2.2))
     else
      bif decide (0<=n1) then
       some (.next (aA .i64 (s.1+1),s.2.1,s.2.2.1,s.2.2.2.1,s.2.2.2.2.1,s.2.2.2.2.2.1,s.2.2.2.2.2.2.1,s.2.2.2.2.2.2.2.1,s.2.2.2.2.2.2.2.2.1,s.2.2.2.2.2.2.2.2.2.1,s.2.2.2.2.2.2.2.2.2.2.1,s.2.2.2.2.2.2.2.2.2.2.2.1,s.2.2.2.2.2.2.2.2.2.2.2.2.1,s.2.2.2.2.2.2.2.2.2.2.2.2.2.1,s.2.2.2.2.2.2.2.2.2.2.2.2.2.2.1,s.2.2.2.2.2.2.2.2.2.2.2.2.2.2.2.1,s.2.2.2.2.2.2.2.2.2.2.2.2.2.2.2.2.1,s.2.2.2.2.2.2.2.2.2.2.2.2.2.2.2.2.2.1,s.2.2.2.2.2.2.2.2.2.2.2.2.2.2.2.2.2.2.1,s.2.2.2.2.2.2.2.2.2.2.2.2.2.2.2.2.2.2.2.1,s.2.2.2.2.2.2.2.2.2.2.2.2.2.2.2.2.2.2.2.2.1,r30.slots.uses,r30.slots.used,r30.slots.free,r30.heap,r30.where_,s.2.2.2.2.2.2.2.2.2.2.2.2.2.2.2.2.2.2.2.2.2.2.2.2.2.2))
      else
       (iK r30.slots).bind fun b31=>
       bif !b31 then
        some (.done (aJ.mk (0,0) (Field.mk []) (aU.mk 0 []) (aG.mk (aR.mk [] [] []) [] []) [],18))
       else
        (fN r30 a2.1 a0.1).bind fun a32=>
        (bK s.2.2.2.2.2.2.2.2.2.2.2.2.2.2.2.2.2.2.2.2.2.2.2.2.2.2 [(a0.1,a32.2)]).bind fun l33=>
        some (.next (aA .i64 (s.1+1),s.2.1,s.2.2.1,s.2.2.2.1,s.2.2.2.2.1,s.2.2.2.2.2.1,s.2.2.2.2.2.2.1,s.2.2.2.2.2.2.2.1,s.2.2.2.2.2.2.2.2.1,s.2.2.2.2.2.2.2.2.2.1,s.2.2.2.2.2.2.2.2.2.2.1,s.2.2.2.2.2.2.2.2.2.2.2.1,s.2.2.2.2.2.2.2.2.2.2.2.2.1,s.2.2.2.2.2.2.2.2.2.2.2.2.2.1,s.2.2.2.2.2.2.2.2.2.2.2.2.2.2.1,s.2.2.2.2.2.2.2.2.2.2.2.2.2.2.2.1,s.2.2.2.2.2.2.2.2.2.2.2.2.2.2.2.2.1,s.2.2.2.2.2.2.2.2.2.2.2.2.2.2.2.2.2.1,s.2.2.2.2.2.2.2.2.2.2.2.2.2.2.2.2.2.2.1,s.2.2.2.2.2.2.2.2.2.2.2.2.2.2.2.2.2.2.2.1,s.2.2.2.2.2.2.2.2.2.2.2.2.2.2.2.2.2.2.2.2.1,a32.1.slots.uses,a32.1.slots.used,a32.1.slots.free,a32.1.heap,a32.1.where_,l33))
    else
     bif !a2.2 then
      some (.next (aA .i64 (s.1+1),s.2))
     else
      bif decide (0<=n1) then
       some (.next (aA .i64 (s.1+1),s.2))
      else
       (iK (aR.mk s.2.2.2.2.2.2.2.2.2.2.2.2.2.2.2.2.2.2.2.2.2.1 s.2.2.2.2.2.2.2.2.2.2.2.2.2.2.2.2.2.2.2.2.2.2.1 s.2.2.2.2.2.2.2.2.2.2.2.2.2.2.2.2.2.2.2.2.2.2.2.1)).bind fun b34=>
       bif !b34 then
        some (.done (aJ.mk (0,0) (Field.mk []) (aU.mk 0 []) (aG.mk (aR.mk [] [] []) [] []) [],18))
       else
        (fN (aG.mk (aR.mk s.2.2.2.2.2.2.2.2.2.2.2.2.2.2.2.2.2.2.2.2.2.1 s.2.2.2.2.2.2.2.2.2.2.2.2.2.2.2.2.2.2.2.2.2.2.1 s.2.2.2.2.2.2.2.2.2.2.2.2.2.2.2.2.2.2.2.2.2.2.2.1) s.2.2.2.2.2.2.2.2.2.2.2.2.2.2.2.2.2.2.2.2.2.2.2.2.1 s.2.2.2.2.2.2.2.2.2.2.2.2.2.2.2.2.2.2.2.2.2.2.2.2.2.1) a2.1 a0.1).bind fun a35=>
        (bK s.2.2.2.2.2.2.2.2.2.2.2.2.2.2.2.2.2.2.2.2.2.2.2.2.2.2 [(a0.1,a35.2)]).bind fun l36=>
        some (.next (aA .i64 (s.1+1),s.2.1,s.2.2.1,s.2.2.2.1,s.2.2.2.2.1,s.2.2.2.2.2.1,s.2.2.2.2.2.2.1,s.2.2.2.2.2.2.2.1,s.2.2.2.2.2.2.2.2.1,s.2.2.2.2.2.2.2.2.2.1,s.2.2.2.2.2.2.2.2.2.2.1,s.2.2.2.2.2.2.2.2.2.2.2.1,s.2.2.2.2.2.2.2.2.2.2.2.2.1,s.2.2.2.2.2.2.2.2.2.2.2.2.2.1,s.2.2.2.2.2.2.2.2.2.2.2.2.2.2.1,s.2.2.2.2.2.2.2.2.2.2.2.2.2.2.2.1,s.2.2.2.2.2.2.2.2.2.2.2.2.2.2.2.2.1,s.2.2.2.2.2.2.2.2.2.2.2.2.2.2.2.2.2.1,s.2.2.2.2.2.2.2.2.2.2.2.2.2.2.2.2.2.2.1,s.2.2.2.2.2.2.2.2.2.2.2.2.2.2.2.2.2.2.2.1,s.2.2.2.2.2.2.2.2.2.2.2.2.2.2.2.2.2.2.2.2.1,a35.1.slots.uses,a35.1.slots.used,a35.1.slots.free,a35.1.heap,a35.1.where_,l36))
   else
    bif !a2.2 then
     some (.next (aA .i64 (s.1+1),s.2))
    else
     bif decide (0<=n1) then
      some (.next (aA .i64 (s.1+1),s.2))
     else
      (iK (aR.mk s.2.2.2.2.2.2.2.2.2.2.2.2.2.2.2.2.2.2.2.2.2.1 s.2.2.2.2.2.2.2.2.2.2.2.2.2.2.2.2.2.2.2.2.2.2.1 s.2.2.2.2.2.2.2.2.2.2.2.2.2.2.2.2.2.2.2.2.2.2.2.1)).bind fun b37=>
      bif !b37 then
       some (.done (aJ.mk (0,0) (Field.mk []) (aU.mk 0 []) (aG.mk (aR.mk [] [] []) [] []) [],18))
      else
       (fN (aG.mk (aR.mk s.2.2.2.2.2.2.2.2.2.2.2.2.2.2.2.2.2.2.2.2.2.1 s.2.2.2.2.2.2.2.2.2.2.2.2.2.2.2.2.2.2.2.2.2.2.1 s.2.2.2.2.2.2.2.2.2.2.2.2.2.2.2.2.2.2.2.2.2.2.2.1) s.2.2.2.2.2.2.2.2.2.2.2.2.2.2.2.2.2.2.2.2.2.2.2.2.1 s.2.2.2.2.2.2.2.2.2.2.2.2.2.2.2.2.2.2.2.2.2.2.2.2.2.1) a2.1 a0.1).bind fun a38=>
       (bK s.2.2.2.2.2.2.2.2.2.2.2.2.2.2.2.2.2.2.2.2.2.2.2.2.2.2 [(a0.1,a38.2)]).bind fun l39=>
       some (.next (aA .i64 (s.1+1),s.2.1,s.2.2.1,s.2.2.2.1,s.2.2.2.2.1,s.2.2.2.2.2.1,s.2.2.2.2.2.2.1,s.2.2.2.2.2.2.2.1,s.2.2.2.2.2.2.2.2.1,s.2.2.2.2.2.2.2.2.2.1,s.2.2.2.2.2.2.2.2.2.2.1,s.2.2.2.2.2.2.2.2.2.2.2.1,s.2.2.2.2.2.2.2.2.2.2.2.2.1,s.2.2.2.2.2.2.2.2.2.2.2.2.2.1,s.2.2.2.2.2.2.2.2.2.2.2.2.2.2.1,s.2.2.2.2.2.2.2.2.2.2.2.2.2.2.2.1,s.2.2.2.2.2.2.2.2.2.2.2.2.2.2.2.2.1,s.2.2.2.2.2.2.2.2.2.2.2.2.2.2.2.2.2.1,s.2.2.2.2.2.2.2.2.2.2.2.2.2.2.2.2.2.2.1,s.2.2.2.2.2.2.2.2.2.2.2.2.2.2.2.2.2.2.2.1,s.2.2.2.2.2.2.2.2.2.2.2.2.2.2.2.2.2.2.2.2.1,a38.1.slots.uses,a38.1.slots.used,a38.1.slots.free,a38.1.heap,a38.1.where_,l39))
 else
  some (.done (aJ.mk (s.2.2.2.2.2.2.2.2.2.2.2.2.2.2.2.2.1,s.2.2.2.2.2.2.2.2.2.2.2.2.2.2.2.2.2.1) (Field.mk s.2.2.2.2.2.2.2.2.2.2.2.2.2.2.2.2.2.2.1) (aU.mk s.2.2.2.2.2.2.2.2.2.2.2.2.2.2.2.2.2.2.2.1 s.2.2.2.2.2.2.2.2.2.2.2.2.2.2.2.2.2.2.2.2.1) (aG.mk (aR.mk s.2.2.2.2.2.2.2.2.2.2.2.2.2.2.2.2.2.2.2.2.2.1 s.2.2.2.2.2.2.2.2.2.2.2.2.2.2.2.2.2.2.2.2.2.2.1 s.2.2.2.2.2.2.2.2.2.2.2.2.2.2.2.2.2.2.2.2.2.2.2.1) s.2.2.2.2.2.2.2.2.2.2.2.2.2.2.2.2.2.2.2.2.2.2.2.2.1 s.2.2.2.2.2.2.2.2.2.2.2.2.2.2.2.2.2.2.2.2.2.2.2.2.2.1) s.2.2.2.2.2.2.2.2.2.2.2.2.2.2.2.2.2.2.2.2.2.2.2.2.2.2,0))
noncomputable def oH (p0:aJ) (p1:Field):Option (aJ×Int):=
 (rX p0).bind fun r0=>
 (BE p1).bind fun r1=>
 aH cP (0,p0.now.1,p0.now.2,p0.field.points,p0.certs.next_,p0.certs.list,p0.agenda.slots.uses,p0.agenda.slots.used,p0.agenda.slots.free,p0.agenda.heap,p0.agenda.where_,p0.due,p1.points,0,0,0,r0.now.1,r0.now.2,r1.points,r0.certs.next_,r0.certs.list,r0.agenda.slots.uses,r0.agenda.slots.used,r0.agenda.slots.free,r0.agenda.heap,r0.agenda.where_,[])
noncomputable def I2 (p0:aU) (p1:Int×Int):Option (aU×Int×Int):=
 (tQ p0).bind fun n0=>
 bif n0 !=0 then
  some (aU.mk 0 [],0,8)
 else
  (rQ p1).bind fun b1=>
  bif !b1 then
   some (aU.mk 0 [],0,8)
  else
   (vO p0 p1).bind fun b2=>
   bif b2 then
    some (aU.mk 0 [],0,14)
   else
    bif (Int.ofNat p0.list.length)==200 then
     some (aU.mk 0 [],0,18)
    else
     bif p0.next_==1000000 then
      some (aU.mk 0 [],0,18)
     else
      (BF p0).bind fun r3=>
      (bK r3.list [(p0.next_,p1)]).bind fun l4=>
      some (aU.mk (aA .i64 (r3.next_+1)) l4,p0.next_,0)
noncomputable def nI (p0:aJ) (p1:Int×Int):Option (aJ×Int×Int):=
 (I2 p0.certs p1).bind fun a0=>
 bif a0.2.2 !=0 then
  some (aJ.mk (0,0) (Field.mk []) (aU.mk 0 []) (aG.mk (aR.mk [] [] []) [] []) [],0,a0.2.2)
 else
  (rX p0).bind fun r1=>
  (rT p0.field p1 p0.now).bind fun a2=>
  bif !a2.2 then
   some (aJ.mk r1.now r1.field a0.1 r1.agenda r1.due,a0.2.1,0)
  else
   (iK p0.agenda.slots).bind fun b3=>
   bif !b3 then
    some (aJ.mk (0,0) (Field.mk []) (aU.mk 0 []) (aG.mk (aR.mk [] [] []) [] []) [],0,18)
   else
    (fN p0.agenda a2.1 a0.2.1).bind fun a4=>
    (bK r1.due [(a0.2.1,a4.2)]).bind fun l5=>
    some (aJ.mk r1.now r1.field a0.1 a4.1 l5,a0.2.1,0)
noncomputable def dX (s:((List (Int×Int))×Int×Int×Int×Int×Int×Int×(List (Int×Int×Int))×Int×(List (Int×Int×Int))×(List Int)×(List Bool)×(List Int)×(List (Int×Int×Int×Int×Int))×(List Int)×(List (Int×Int×Int)))):Option (cA ((List (Int×Int))×Int×Int×Int×Int×Int×Int×(List (Int×Int×Int))×Int×(List (Int×Int×Int))×(List Int)×(List Bool)×(List Int)×(List (Int×Int×Int×Int×Int))×(List Int)×(List (Int×Int×Int))) (cA ((List (Int×Int))×Int×Int×Int×(List (Int×Int×Int))×Int×(List (Int×Int×Int))×(List Int)×(List Bool)×(List Int)×(List (Int×Int×Int×Int×Int))×(List Int)×(List (Int×Int×Int))×(List (Int×Int×Int))×Int×Int×Int×Int×Int×(List (Int×Int×Int))×Int×(List (Int×Int×Int))×(List Int)×(List Bool)×(List Int)×(List (Int×Int×Int×Int×Int))×(List Int)×(List (Int×Int×Int))) (aJ×Int))):=
 bif decide (s.2.1<(Int.ofNat s.1.length)) then
  (aO s.1 s.2.1).bind fun a0=>
  (vO (aU.mk s.2.2.2.2.2.2.2.2.1 s.2.2.2.2.2.2.2.2.2.1) a0).bind fun b1=>
  bif b1 then
   some (.next (s.1,aA .i64 (s.2.1+1),s.2.2))
  else
   (aO s.1 s.2.1).bind fun a2=>
   (nI (aJ.mk (s.2.2.2.2.2.1,s.2.2.2.2.2.2.1) (Field.mk s.2.2.2.2.2.2.2.1) (aU.mk s.2.2.2.2.2.2.2.2.1 s.2.2.2.2.2.2.2.2.2.1) (aG.mk (aR.mk s.2.2.2.2.2.2.2.2.2.2.1 s.2.2.2.2.2.2.2.2.2.2.2.1 s.2.2.2.2.2.2.2.2.2.2.2.2.1) s.2.2.2.2.2.2.2.2.2.2.2.2.2.1 s.2.2.2.2.2.2.2.2.2.2.2.2.2.2.1) s.2.2.2.2.2.2.2.2.2.2.2.2.2.2.2) a2).bind fun a3=>
   bif a3.2.2 !=0 then
    some (.done (.done (aJ.mk (0,0) (Field.mk []) (aU.mk 0 []) (aG.mk (aR.mk [] [] []) [] []) [],a3.2.2)))
   else
    some (.next (s.1,aA .i64 (s.2.1+1),s.2.2.1,s.2.2.2.1,s.2.2.2.2.1,a3.1.now.1,a3.1.now.2,a3.1.field.points,a3.1.certs.next_,a3.1.certs.list,a3.1.agenda.slots.uses,a3.1.agenda.slots.used,a3.1.agenda.slots.free,a3.1.agenda.heap,a3.1.agenda.where_,a3.1.due))
 else
  some (.done (.done (aJ.mk (s.2.2.2.2.2.1,s.2.2.2.2.2.2.1) (Field.mk s.2.2.2.2.2.2.2.1) (aU.mk s.2.2.2.2.2.2.2.2.1 s.2.2.2.2.2.2.2.2.2.1) (aG.mk (aR.mk s.2.2.2.2.2.2.2.2.2.2.1 s.2.2.2.2.2.2.2.2.2.2.2.1 s.2.2.2.2.2.2.2.2.2.2.2.2.1) s.2.2.2.2.2.2.2.2.2.2.2.2.2.1 s.2.2.2.2.2.2.2.2.2.2.2.2.2.2.1) s.2.2.2.2.2.2.2.2.2.2.2.2.2.2.2,0)))
noncomputable def dL (s:((List (Int×Int))×Int×Int×Int×(List (Int×Int×Int))×Int×(List (Int×Int×Int))×(List Int)×(List Bool)×(List Int)×(List (Int×Int×Int×Int×Int))×(List Int)×(List (Int×Int×Int))×(List (Int×Int×Int))×Int×Int×Int×Int×Int×(List (Int×Int×Int))×Int×(List (Int×Int×Int))×(List Int)×(List Bool)×(List Int)×(List (Int×Int×Int×Int×Int))×(List Int)×(List (Int×Int×Int)))):Option (cA ((List (Int×Int))×Int×Int×Int×(List (Int×Int×Int))×Int×(List (Int×Int×Int))×(List Int)×(List Bool)×(List Int)×(List (Int×Int×Int×Int×Int))×(List Int)×(List (Int×Int×Int))×(List (Int×Int×Int))×Int×Int×Int×Int×Int×(List (Int×Int×Int))×Int×(List (Int×Int×Int))×(List Int)×(List Bool)×(List Int)×(List (Int×Int×Int×Int×Int))×(List Int)×(List (Int×Int×Int))) (aJ×Int)):=
 bif decide (s.2.1<(Int.ofNat s.2.2.2.2.2.2.1.length)) then
  (aO s.2.2.2.2.2.2.1 s.2.1).bind fun a0=>
  (DF s.1 a0.2).bind fun b1=>
  bif !b1 then
   (aO s.2.2.2.2.2.2.1 s.2.1).bind fun a2=>
   (rY (aJ.mk (s.2.2.2.2.2.2.2.2.2.2.2.2.2.2.2.2.2.1,s.2.2.2.2.2.2.2.2.2.2.2.2.2.2.2.2.2.2.1) (Field.mk s.2.2.2.2.2.2.2.2.2.2.2.2.2.2.2.2.2.2.2.1) (aU.mk s.2.2.2.2.2.2.2.2.2.2.2.2.2.2.2.2.2.2.2.2.1 s.2.2.2.2.2.2.2.2.2.2.2.2.2.2.2.2.2.2.2.2.2.1) (aG.mk (aR.mk s.2.2.2.2.2.2.2.2.2.2.2.2.2.2.2.2.2.2.2.2.2.2.1 s.2.2.2.2.2.2.2.2.2.2.2.2.2.2.2.2.2.2.2.2.2.2.2.1 s.2.2.2.2.2.2.2.2.2.2.2.2.2.2.2.2.2.2.2.2.2.2.2.2.1) s.2.2.2.2.2.2.2.2.2.2.2.2.2.2.2.2.2.2.2.2.2.2.2.2.2.1 s.2.2.2.2.2.2.2.2.2.2.2.2.2.2.2.2.2.2.2.2.2.2.2.2.2.2.1) s.2.2.2.2.2.2.2.2.2.2.2.2.2.2.2.2.2.2.2.2.2.2.2.2.2.2.2) a2.1).bind fun r3=>
   some (.next (s.1,aA .i64 (s.2.1+1),s.2.2.1,s.2.2.2.1,s.2.2.2.2.1,s.2.2.2.2.2.1,s.2.2.2.2.2.2.1,s.2.2.2.2.2.2.2.1,s.2.2.2.2.2.2.2.2.1,s.2.2.2.2.2.2.2.2.2.1,s.2.2.2.2.2.2.2.2.2.2.1,s.2.2.2.2.2.2.2.2.2.2.2.1,s.2.2.2.2.2.2.2.2.2.2.2.2.1,s.2.2.2.2.2.2.2.2.2.2.2.2.2.1,s.2.2.2.2.2.2.2.2.2.2.2.2.2.2.1,s.2.2.2.2.2.2.2.2.2.2.2.2.2.2.2.1,s.2.2.2.2.2.2.2.2.2.2.2.2.2.2.2.2.1,r3.now.1,r3.now.2,r3.field.points,r3.certs.next_,r3.certs.list,r3.agenda.slots.uses,r3.agenda.slots.used,r3.agenda.slots.free,r3.agenda.heap,r3.agenda.where_,r3.due))
  else
   some (.next (s.1,aA .i64 (s.2.1+1),s.2.2))
 else
  (F4 (Field.mk s.2.2.2.2.2.2.2.2.2.2.2.2.2.2.2.2.2.2.2.1) (Field.mk s.2.2.2.2.2.2.2.2.2.2.2.2.2.1)).bind fun b4=>
  bif !b4 then
   (oH (aJ.mk (s.2.2.2.2.2.2.2.2.2.2.2.2.2.2.2.2.2.1,s.2.2.2.2.2.2.2.2.2.2.2.2.2.2.2.2.2.2.1) (Field.mk s.2.2.2.2.2.2.2.2.2.2.2.2.2.2.2.2.2.2.2.1) (aU.mk s.2.2.2.2.2.2.2.2.2.2.2.2.2.2.2.2.2.2.2.2.1 s.2.2.2.2.2.2.2.2.2.2.2.2.2.2.2.2.2.2.2.2.2.1) (aG.mk (aR.mk s.2.2.2.2.2.2.2.2.2.2.2.2.2.2.2.2.2.2.2.2.2.2.1 s.2.2.2.2.2.2.2.2.2.2.2.2.2.2.2.2.2.2.2.2.2.2.2.1 s.2.2.2.2.2.2.2.2.2.2.2.2.2.2.2.2.2.2.2.2.2.2.2.2.1) s.2.2.2.2.2.2.2.2.2.2.2.2.2.2.2.2.2.2.2.2.2.2.2.2.2.1 s.2.2.2.2.2.2.2.2.2.2.2.2.2.2.2.2.2.2.2.2.2.2.2.2.2.2.1) s.2.2.2.2.2.2.2.2.2.2.2.2.2.2.2.2.2.2.2.2.2.2.2.2.2.2.2) (Field.mk s.2.2.2.2.2.2.2.2.2.2.2.2.2.1)).bind fun a5=>
   bif a5.2 !=0 then
    some (.done (aJ.mk (0,0) (Field.mk []) (aU.mk 0 []) (aG.mk (aR.mk [] [] []) [] []) [],a5.2))
   else
    aH dX (s.1,0,s.2.2.2.2.2.2.2.2.2.2.2.2.2.2.1,s.2.2.2.2.2.2.2.2.2.2.2.2.2.2.2.1,s.2.2.2.2.2.2.2.2.2.2.2.2.2.2.2.2.1,a5.1.now.1,a5.1.now.2,a5.1.field.points,a5.1.certs.next_,a5.1.certs.list,a5.1.agenda.slots.uses,a5.1.agenda.slots.used,a5.1.agenda.slots.free,a5.1.agenda.heap,a5.1.agenda.where_,a5.1.due)
  else
   aH dX (s.1,0,s.2.2.2.2.2.2.2.2.2.2.2.2.2.2)
noncomputable def oI (p0:aJ) (p1:Field) (p2:List (Int×Int)):Option (aJ×Int):=
 (rX p0).bind fun r0=>
 aH dL (p2,0,p0.now.1,p0.now.2,p0.field.points,p0.certs.next_,p0.certs.list,p0.agenda.slots.uses,p0.agenda.slots.used,p0.agenda.slots.free,p0.agenda.heap,p0.agenda.where_,p0.due,p1.points,0,0,0,r0.now.1,r0.now.2,r0.field.points,r0.certs.next_,r0.certs.list,r0.agenda.slots.uses,r0.agenda.slots.used,r0.agenda.slots.free,r0.agenda.heap,r0.agenda.where_,r0.due)
structure E5 where
 clock:aJ
 heap:List Int
noncomputable def xU (s:(Int×Int×Int×(List (Int×Int×Int)))):Option (cA (Int×Int×Int×(List (Int×Int×Int))) Int):=
 bif decide (s.2.1<(Int.ofNat s.2.2.2.length)) then
  (aO s.2.2.2 s.2.1).bind fun a0=>
  bif a0.1==s.1 then
   some (.done s.2.1)
  else
   some (.next (s.1,aA .i64 (s.2.1+1),s.2.2))
 else
  some (.done (-1))
noncomputable def TZ (p0:aU) (p1:Int):Option Int:=
 aH xU (p1,0,p0.next_,p0.list)
noncomputable def HC (p0:aJ):Option (aJ×(Int×Int×Int×Int×Int)×(Int×Int)):=
 (aO p0.agenda.heap 0).bind fun a0=>
 (TZ p0.certs a0.2.2.1).bind fun n1=>
 (aO p0.certs.list n1).bind fun a2=>
 (rY p0 a0.2.2.1).bind fun r3=>
 some (aJ.mk (a0.1,a0.2.1) r3.field r3.certs r3.agenda r3.due,a0,a2.2)
noncomputable def yS (p0:aJ) (p1:Field):Option (cX×Int):=
 (rV p1 p0.now).bind fun r0=>
 (DE r0).bind fun l1=>
 (oI p0 p1 l1).bind fun a2=>
 bif a2.2 !=0 then
  some (cX.mk (aJ.mk (0,0) (Field.mk []) (aU.mk 0 []) (aG.mk (aR.mk [] [] []) [] []) []) (oD.mk 0 []),a2.2)
 else
  some (cX.mk a2.1 r0,0)
end Go.Proofs.YthljmpcakagceaaGreat
namespace Go.Proofs.YthljmpcakagceaaGreat
open Go.Vm
abbrev BG (n:Int):Prop:= -9223372036854775808<=n/\n<9223372036854775808
abbrev U64 (n:Int):Prop:=0<=n/\n<18446744073709551616
theorem wi (n:Int):aA .i64 n=(n+9223372036854775808)%18446744073709551616-9223372036854775808:=by
 rw [vU];simp only [IntKind.wrap,IntKind.bits,IntKind.signed,Bool.true_and];have e1:(2:Int)^64=18446744073709551616:=by decide
 have e2:(2:Int)^(64-1)=9223372036854775808:=by decide
 simp only [e1,e2,decide_eq_true_eq];split<;>omega
theorem wu (n:Int):aA .u64 n=n%18446744073709551616:=by
 rw [vU];simp only [IntKind.wrap,IntKind.bits,IntKind.signed,Bool.false_and];have e1:(2:Int)^64=18446744073709551616:=by decide
 simp only [e1];simp
theorem B9 {n:Int} (h:BG n):aA .i64 n=n:=by rw [wi];omega
theorem fE {a b:Int} (h:a≠b):(a !=b)=true:=by simpa using h
theorem dR {a b:Int} (h:a=b):(a !=b)=false:=by simpa using h
theorem gL {a b:Int} (h:a=b):(a==b)=true:=by simpa using h
theorem fW {a b:Int} (h:a≠b):(a==b)=false:=by simpa using h
theorem YS (a b:Int):(a==b)=decide (a=b):=by
 by_cases h:a=b
 · rw [gL h,decide_eq_true h]
 · rw [fW h,decide_eq_false h]
theorem lt_or_ge (a b:Int):a<b\/b<=a:=by omega
theorem aOV (a:Int):iQ .u64 a 32=a / 4294967296:=by
 unfold iQ;rw [show (min (32:Int).toNat (IntKind.bits .u64))=32 from by decide,show (2:Int)^32=4294967296 from by decide]
 exact Int.fdiv_eq_ediv_of_nonneg _ (by decide)
theorem WC {a:Int} (h:U64 a):J8 .u64 a 4294967295=a%4294967296:=by
 obtain ⟨n,rfl⟩:=Int.eq_ofNat_of_zero_le h.1;unfold J8;have e:(BitVec.ofInt (IntKind.bits .u64) (n:Int)&&&BitVec.ofInt (IntKind.bits .u64) 4294967295).toNat=n%4294967296:=by
  rw [BitVec.toNat_and];have e1:(BitVec.ofInt (IntKind.bits .u64) (n:Int)).toNat=n:=by
   rw [BitVec.toNat_ofInt]
   have:((2^(IntKind.bits .u64):Nat):Int)=18446744073709551616:=by decide
   rw [this];omega
  have e2:(BitVec.ofInt (IntKind.bits .u64) (4294967295:Int)).toNat=2^32-1:=by decide
  rw [e1,e2,Nat.and_two_pow_sub_one_eq_mod]
 rw [e]
 have:=wu ((n%4294967296:Nat):Int)
 rw [vU] at this;rw [this];omega
theorem aJd {a b:Nat} (ha:a<1000000000) (hb:b<1000000000):aA .i64 (iQ .u64 (aA .u64 (aA .i64 ((a:Int)+(b:Int)))) 1)=(((a+b) / 2:Nat):Int):=by
 unfold iQ;rw [show (min (1:Int).toNat (IntKind.bits .u64))=1 from by decide,show (2:Int)^1=2 from by decide,Int.fdiv_eq_ediv_of_nonneg _ (by decide),wi (_+_),wu,wi]
 omega
section
variable {σ ρ : Type} {body : σ -> Option (cA σ ρ)}
theorem eA (st:Nat->σ) (n:Nat) (h: ∀i,i<n->body (st i)=some (.next (st (i+1)))):aH body (st 0)=aH body (st n):=by
 induction n with
 |zero=>rfl
 |succ n ih=>
  rw [ih fun i hi=>h i (by omega)]
  exact aX (h n (by omega))
theorem dC (st:Nat->σ) (n:Nat) (c:Nat->Prop) {r e:ρ} (h: ∀i,i<n->(c i->body (st i)=some (.done r))/\(¬c i->body (st i)=some (.next (st (i+1)))))
 (hend:body (st n)=some (.done e)):((∃i,i<n/\c i)->aH body (st 0)=some r)/\((∀i,i<n-> ¬c i)->aH body (st 0)=some e):=by
 constructor
 · rintro ⟨i,hi,hc⟩
   have key: ∀k,k<=n->(∃i,i<n/\n-k<=i/\c i)->aH body (st (n-k))=some r:=by
    intro k
    induction k with
    |zero=>rintro _ ⟨i,h1,h2,_⟩;omega
    |succ k ih=>
     rintro hk ⟨i,h1,h2,h3⟩
     by_cases hc:c (n- (k+1))
     · exact aL ((h _ (by omega)).1 hc)
     · rw [aX ((h _ (by omega)).2 hc),show n- (k+1)+1=n-k by omega]
       refine ih (by omega) ⟨i,h1,?_,h3⟩
       by_cases he:i=n- (k+1)
       · subst he;exact absurd h3 hc
       · omega
   have:=key n (Nat.le_refl n) ⟨i,hi,by omega,hc⟩
   rwa [Nat.sub_self] at this
 · intro hn
   rw [eA st n fun i hi=>(h i hi).2 (hn i hi)]
   exact aL hend
theorem HD {c:Nat->Prop}: ∀{n:Nat},(∃i,i<n/\c i)-> ∃k,k<n/\c k/\ ∀j,j<k-> ¬c j
 |0,h=>by obtain ⟨i,hi,_⟩:=h;omega
 |n+1,h=>by
  by_cases hx: ∃i,i<n/\c i
  · obtain ⟨k,h1,h2,h3⟩:=HD hx
    exact ⟨k,by omega,h2,h3⟩
  · obtain ⟨i,hi,hc⟩:=h
    refine ⟨i,hi,hc,fun j hj hcj=>hx ⟨j,by omega,hcj⟩⟩
theorem lS (st:Nat->σ) (n:Nat) (c:Nat->Prop) (r:Nat->ρ) {e:ρ} (h: ∀i,i<n->(c i->body (st i)=some (.done (r i)))/\(¬c i->body (st i)=some (.next (st (i+1)))))
 (hend:body (st n)=some (.done e)):(∀k,k<n->c k->(∀j,j<k-> ¬c j)->aH body (st 0)=some (r k))/\((∀i,i<n-> ¬c i)->aH body (st 0)=some e):=by
 constructor
 · intro k hk hc hj
   rw [eA st k fun i hi=>(h i (by omega)).2 (hj i hi)]
   exact aL ((h k hk).1 hc)
 · intro hn
   rw [eA st n fun i hi=>(h i hi).2 (hn i hi)]
   exact aL hend
theorem I3 (st:Nat->Nat->σ) (n m:Nat) (c:Nat->Prop)
 (h: ∀lo hi,lo<hi->hi<=n->(c ((lo+hi) / 2)->body (st lo hi)=some (.next (st ((lo+hi) / 2+1) hi)))/\(¬c ((lo+hi) / 2)->body (st lo hi)=some (.next (st lo ((lo+hi) / 2)))))
 (h1: ∀i,i<m->c i) (h2: ∀i,m<=i->i<n-> ¬c i): ∀d lo hi,hi-lo<=d->lo<=m->m<=hi->hi<=n->aH body (st lo hi)=aH body (st m m)
 |0,lo,hi,hd,a,b,_=>by
  have e1:lo=m:=by omega
  have e2:hi=m:=by omega
  rw [e1,e2]
 |d+1,lo,hi,hd,a,b,e=>by
  by_cases hl:lo<hi
  · by_cases hc:c ((lo+hi) / 2)
    · rw [aX ((h lo hi hl e).1 hc)]
      refine I3 st n m c h h1 h2 d _ _ (by omega) ?_ b e
      refine Classical.byContradiction fun hx=>?_
      exact h2 ((lo+hi) / 2) (by omega) (by omega) hc
    · rw [aX ((h lo hi hl e).2 hc)]
      refine I3 st n m c h h1 h2 d _ _ (by omega) a ?_ (by omega)
      refine Classical.byContradiction fun hx=>?_
      exact hc (h1 ((lo+hi) / 2) (by omega))
  · have e1:lo=m:=by omega
    have e2:hi=m:=by omega
    rw [e1,e2]
end
section
variable {α : Type} [Inhabited α]
theorem aC (l:List α) (n:Nat) (h:n<l.length):aO l (n:Int)=some l[n]!:=by
 show l[n]? =some l[n]!;rw [List.getElem?_eq_getElem h,getElem!_pos l n h]
theorem dM {l:List α} {i:Int} (h0:0<=i) (h:i<l.length):aO l i=some l[i.toNat]!:=by
 obtain ⟨n,rfl⟩:=Int.eq_ofNat_of_zero_le h0;exact aC l n (by omega)
theorem mH {β:Type} (l:List β) (n:Nat) (a:β):bZ l (n:Int) a=l.set n a:=rfl
theorem bG (l:List α) (n m:Nat) (a:α):(l.set n a)[m]! =if m=n/\n<l.length then a else l[m]!:=by
 by_cases hm:m<l.length
 · rw [getElem!_pos (l.set n a) m (by simpa using hm),getElem!_pos l m hm,List.getElem_set]
   split
   · rw [if_pos (by omega)]
   · rw [if_neg (by omega)]
 · rw [getElem!_neg (l.set n a) m (by simpa using hm),getElem!_neg l m hm]
   split
   · omega
   · rfl
theorem aY {l:List α} {x:α}:x∈l↔ ∃i,i<l.length/\l[i]! =x:=by
 rw [List.mem_iff_getElem];constructor
 · rintro ⟨i,h,rfl⟩;exact ⟨i,h,getElem!_pos l i h⟩
 · rintro ⟨i,h,rfl⟩;exact ⟨i,h,(getElem!_pos l i h).symm⟩
theorem bB {l:List α} {i:Nat} (h:i<l.length):l[i]!∈l:=aY.2 ⟨i,h,rfl⟩
theorem gV {l m:List α} {i:Nat} (h:i<l.length):(l++m)[i]! =l[i]!:=by
 rw [getElem!_pos (l++m) i (by simp;omega),getElem!_pos l i h,List.getElem_append_left h]
theorem gZ {l m:List α} {i:Nat} (h:l.length<=i):(l++m)[i]! =m[i-l.length]!:=by
 by_cases hi:i<l.length+m.length
 · rw [getElem!_pos (l++m) i (by simp;omega),getElem!_pos m (i-l.length) (by omega),List.getElem_append_right h]
 · rw [getElem!_neg (l++m) i (by simp;omega),getElem!_neg m (i-l.length) (by omega)]
theorem lH {l:List α} {n i:Nat} (h:i<n):(l.take n)[i]! =l[i]!:=by
 by_cases hi:i<l.length
 · rw [getElem!_pos (l.take n) i (by simp;omega),getElem!_pos l i hi,List.getElem_take]
 · rw [getElem!_neg (l.take n) i (by simp;omega),getElem!_neg l i hi]
theorem vP {l:List α} {n i:Nat}:(l.drop n)[i]! =l[n+i]!:=by
 by_cases hi:n+i<l.length
 · rw [getElem!_pos (l.drop n) i (by simp;omega),getElem!_pos l (n+i) hi,List.getElem_drop]
 · rw [getElem!_neg (l.drop n) i (by simp;omega),getElem!_neg l (n+i) hi]
theorem DI {l m:List α} (hl:l.length=m.length) (h: ∀i,i<l.length->l[i]! =m[i]!):l=m:=by
 apply List.ext_getElem hl;intro i h1 h2
 have:=h i h1
 rwa [getElem!_pos l i h1,getElem!_pos m i h2] at this
theorem aCa {l:List α} {i:Nat} (h:i<l.length):l=l.take i++l[i]!::l.drop (i+1):=by
 rw [getElem!_pos l i h,List.getElem_cons_drop,List.take_append_drop]
end
theorem bH {α:Type} {l:List α} (h:l.length<=1048576):cC l=some l:=by unfold cC;rw [if_pos h]
theorem dN {α:Type} {l m:List α} (h:l.length+m.length<=1048576):bK l m=some (l++m):=by unfold bK;rw [if_pos h]
@[simp] theorem aB {α β:Type} (a:α) (f:α->Option β):(some a).bind f=f a:=rfl
end Go.Proofs.YthljmpcakagceaaGreat
namespace Go.Proofs.YthljmpcakagceaaGreat
open Go.Vm Classical
structure SOA {α:Type} (P:α->α->Prop) (S:α->Prop):Prop where
 irr: ∀a,S a-> ¬P a a
 tr: ∀a b c,S a->S b->S c->P a b->P b c->P a c
 ntr: ∀a b c,S a->S b->S c-> ¬P a b-> ¬P b c-> ¬P a c
theorem SOA.asym {α:Type} {P:α->α->Prop} {S:α->Prop} (o:SOA P S) {a b:α} (ha:S a) (hb:S b) (h:P a b): ¬P b a:=fun k=>o.irr a ha (o.tr a b a ha hb ha h k)
section
variable {α : Type} [Inhabited α] {P : α -> α -> Prop} {S : α -> Prop}
def HE (l:List α) (i j:Nat):List α:=(l.set i l[j]!).set j l[i]!
theorem I4 (l:List α) (i j:Nat):(HE l i j).length=l.length:=by
 unfold HE;rw [List.length_set,List.length_set]
theorem BH (l:List α) {i j:Nat} (hi:i<l.length) (hj:j<l.length) (k:Nat):(HE l i j)[k]! =if k=j then l[i]! else if k=i then l[j]! else l[k]!:=by
 unfold HE;rw [bG,List.length_set,bG]
 by_cases c:k=j
 · rw [if_pos ⟨c,hj⟩,if_pos c]
 · rw [if_neg (fun h=>c h.1),if_neg c]
   by_cases d:k=i
   · rw [if_pos ⟨d,hi⟩,if_pos d]
   · rw [if_neg (fun h=>d h.1),if_neg d]
theorem F5 {l:List α} {i j:Nat} (hi:i<l.length) (hj:j<l.length):(HE l i j).Perm l:=by
 unfold HE;rw [getElem!_pos l j hj,getElem!_pos l i hi];exact List.set_set_perm hi hj
noncomputable def N4 (P:α->α->Prop):Nat->List α->List α
 |0,l=>l
 |j+1,l=>if P l[j+1]! l[j]! then N4 P j (HE l (j+1) j) else l
theorem O4 (P:α->α->Prop): ∀(j:Nat) (l:List α),j<l.length->(N4 P j l).Perm l
 |0,l,_=>List.Perm.refl _
 |j+1,l,h=>by
  unfold N4;split
  · exact (O4 P j _ (by rw [I4];omega)).trans (F5 h (by omega))
  · exact List.Perm.refl _
def WD (P:α->α->Prop) (l:List α) (n:Nat):Prop:= ∀a b,a<b->b<n-> ¬P l[b]! l[a]!
structure aOW (P:α->α->Prop) (l:List α) (i j:Nat):Prop where
 lt:j<=i
 le:i<l.length
 el: ∀a b,a<b->b<=i->a≠j->b≠j-> ¬P l[b]! l[a]!
 up: ∀b,j<b->b<=i-> ¬P l[b]! l[j]!
theorem aCb (o:SOA P S): ∀(j i:Nat) (l:List α),(∀x∈l,S x)->aOW P l i j->WD P (N4 P j l) (i+1):=by
 intro j
 induction j with
 |zero=>
  intro i l _ v a b h1 h2
  by_cases c:a=0
  · subst c;exact v.up b h1 (by omega)
  · exact v.el a b h1 (by omega) c (by omega)
 |succ j ih=>
  intro i l hS v;have hi:=v.le;have hj:=v.lt;have sm: ∀k,k<l.length->S l[k]!:=fun k hk=>hS _ (bB hk)
  have h1:j+1<l.length:=by omega
  have h0:j<l.length:=by omega
  unfold N4;split
  · rename_i hc
    refine ih i _ (fun x hx=>hS x ((F5 h1 h0).mem_iff.1 hx)) ⟨by omega,by rw [I4];exact hi,fun a b a1 a2 a3 a4=>?_,fun b b1 b2=>?_⟩
    · rw [BH l h1 h0,BH l h1 h0,if_neg a3,if_neg a4]
      by_cases c:a=j+1
      · subst c
        rw [if_pos rfl,if_neg (by omega)]
        exact v.el j b (by omega) a2 (by omega) (by omega)
      · rw [if_neg c]
        by_cases d:b=j+1
        · subst d
          rw [if_pos rfl];exact v.el a j (by omega) (by omega) (by omega) (by omega)
        · rw [if_neg d]
          exact v.el a b a1 a2 c d
    · rw [BH l h1 h0,BH l h1 h0,if_pos rfl,if_neg (by omega)]
      by_cases c:b=j+1
      · subst c
        rw [if_pos rfl];exact o.asym (sm _ h1) (sm _ h0) hc
      · rw [if_neg c]
        exact v.up b (by omega) b2
  · rename_i hc
    intro a b a1 a2
    by_cases c:a=j+1
    · subst c;exact v.up b a1 (by omega)
    · by_cases d:b=j+1
      · subst d
        by_cases e:a=j
        · subst e;exact hc
        · exact o.ntr _ _ _ (sm _ h1) (sm _ h0) (sm _ (by omega)) hc (v.el a j (by omega) (by omega) c (by omega))
      · exact v.el a b a1 (by omega) c d
noncomputable def DJ (P:α->α->Prop) (l:List α):Nat->List α
 |0=>l
 |i+1=>N4 P i (DJ P l i)
theorem wO (P:α->α->Prop) (l:List α): ∀i,i<=l.length->(DJ P l i).Perm l
 |0,_=>List.Perm.refl _
 |i+1,h=>by
  have p:=wO P l i (by omega)
  exact (O4 P i _ (by rw [p.length_eq];omega)).trans p
theorem MT (o:SOA P S) {l:List α} (hS: ∀x∈l,S x): ∀i,i<=l.length->WD P (DJ P l i) i
 |0,_=>fun a b _ h=>by omega
 |i+1,h=>by
  have p:=wO P l i (by omega)
  have s:=MT o hS i (by omega)
  refine aCb o i i _ (fun x hx=>hS x (p.mem_iff.1 hx)) ⟨Nat.le_refl _,by rw [p.length_eq];omega,fun a b a1 a2 a3 a4=>s a b a1 (by omega),fun b b1 b2=>by omega⟩
end
end Go.Proofs.YthljmpcakagceaaGreat
namespace Go.Proofs.YthljmpcakagceaaGreat
open Go.Vm Classical
theorem kI {n:Int} (h:BG n):iJ n=some (n.natAbs:Int):=by
 unfold iJ;simp only [wi,wu]
 by_cases hn:n<0
 · simp only [hn,decide_true,cond_true,Option.some.injEq];omega
 · simp only [hn,decide_false,cond_false,Option.some.injEq];omega
theorem qT {n:Int} (h:BG n):mM n=some (n.natAbs:Int):=by
 unfold mM;simp only [wu]
 by_cases hn:n<0
 · simp only [hn,decide_true,cond_true,Option.some.injEq];omega
 · simp only [hn,decide_false,cond_false,Option.some.injEq];omega
theorem sB (m n:Nat):qH m n=some (Nat.gcd m n:Int):=by
 unfold qH
 induction n using Nat.strongRecOn generalizing m with
 |ind n ih=>
  by_cases h0:n=0
  · subst h0
    rw [Nat.gcd_zero_right];exact aL (by simp [oP])
  · have e:oP ((m:Int),(n:Int))=some (.next ((n:Int),((m%n:Nat):Int))):=by
     have h1:((n:Int) !=0)=true:=by simp;omega
     have h2:((n:Int)==0)=false:=by simp;omega
     simp only [oP,h1,h2,cond_true,cond_false,Int.ofNat_tmod]
    rw [aX e,ih (m%n) (Nat.mod_lt _ (by omega)) n,Nat.gcd_comm m n,Nat.gcd_rec n m,Nat.gcd_comm]
theorem E6 (m n:Nat):zW m n=some (Nat.gcd m n:Int):=by
 unfold zW
 induction n using Nat.strongRecOn generalizing m with
 |ind n ih=>
  by_cases h0:n=0
  · subst h0
    rw [Nat.gcd_zero_right];exact aL (by simp [vB])
  · have e:vB ((m:Int),(n:Int))=some (.next ((n:Int),((m%n:Nat):Int))):=by
     have h1:decide (0<(n:Int))=true:=by simp;omega
     have h2:((n:Int)==0)=false:=by simp;omega
     simp only [vB,h1,h2,cond_true,cond_false,Int.ofNat_tmod]
    rw [aX e,ih (m%n) (Nat.mod_lt _ (by omega)) n,Nat.gcd_comm m n,Nat.gcd_rec n m,Nat.gcd_comm]
def bM (r:Int×Int):Prop:=1<=r.2/\r.1≠ -9223372036854775808/\Nat.gcd r.2.natAbs r.1.natAbs=1
abbrev mU (r:Int×Int):Prop:=BG r.1/\BG r.2
theorem dU {r:Int×Int} (h:mU r):dZ r=some (if bM r then 0 else 8):=by
 obtain ⟨a,b⟩:=r;obtain ⟨ha,hb⟩:=h;unfold dZ bM;dsimp only at ha hb ⊢
 by_cases h1:b<1
 · rw [if_neg (by omega)];simp [h1]
 · by_cases h2:a= -9223372036854775808
   · rw [if_neg (by omega)];simp [h1,h2]
   · have e2:(a== -9223372036854775808)=false:=by simpa using h2
     have e3:aA .u64 b=(b.natAbs:Int):=by rw [wu];omega
     simp only [h1,decide_false,cond_false,e2,qT ha,aB,e3,E6];have hp:0<Nat.gcd b.natAbs a.natAbs:=Nat.gcd_pos_of_pos_left _ (by omega)
     by_cases h3:Nat.gcd b.natAbs a.natAbs=1
     · rw [if_pos ⟨by omega,h2,h3⟩,h3];rfl
     · rw [if_neg (fun h=>h3 h.2.2)]
       have:decide (1<(Nat.gcd b.natAbs a.natAbs:Int))=true:=by simp;omega
       rw [this];rfl
theorem wP {r:Int×Int} (h:mU r):pI r=some (if bM r then 0 else 8):=by
 obtain ⟨a,b⟩:=r;obtain ⟨ha,hb⟩:=h;unfold pI bM;dsimp only at ha hb ⊢
 by_cases h1:b<1
 · rw [if_neg (by omega)];simp [h1]
 · by_cases h2:a= -9223372036854775808
   · rw [if_neg (by omega)];simp [h1,h2]
   · have e2:(a== -9223372036854775808)=false:=by simpa using h2
     have e3:aA .u64 b=(b.natAbs:Int):=by rw [wu];omega
     simp only [h1,decide_false,cond_false,e2,kI ha,aB,e3,sB];rw [Nat.gcd_comm]
     by_cases h3:Nat.gcd b.natAbs a.natAbs=1
     · rw [if_pos ⟨by omega,h2,h3⟩,h3];rfl
     · rw [if_neg (fun h=>h3 h.2.2)]
       have:((Nat.gcd b.natAbs a.natAbs:Int) !=1)=true:=by simp;omega
       rw [this];rfl
theorem aCc (x y:Int) (hx:U64 x) (hy:U64 y): ∃p q r s:Int,0<=p/\p<=18446744065119617025/\0<=q/\q<=18446744065119617025/\0<=r/\r<=18446744065119617025/\0<=s/\s<=18446744065119617025/\
 x / 4294967296*(y / 4294967296)=p/\x / 4294967296*(y%4294967296)=q/\x%4294967296*(y / 4294967296)=r/\x%4294967296*(y%4294967296)=s/\
 x*y=p*18446744073709551616+(q+r)*4294967296+s:=by
 have hx1:0<=x / 4294967296/\x / 4294967296<=4294967295:=by omega
 have hx0:0<=x%4294967296/\x%4294967296<=4294967295:=by omega
 have hy1:0<=y / 4294967296/\y / 4294967296<=4294967295:=by omega
 have hy0:0<=y%4294967296/\y%4294967296<=4294967295:=by omega
 have ex:x=x / 4294967296*4294967296+x%4294967296:=by omega
 have ey:y=y / 4294967296*4294967296+y%4294967296:=by omega
 generalize x / 4294967296=a at*;generalize x%4294967296=b at*;generalize y / 4294967296=c at*;generalize y%4294967296=d at*;have bd: ∀{u v:Int},0<=u/\u<=4294967295->0<=v/\v<=4294967295->0<=u*v/\u*v<=18446744065119617025:=by
  intro u v hu hv;refine ⟨Int.mul_nonneg hu.1 hv.1,?_⟩
  calc u*v<=4294967295*4294967295:=Int.mul_le_mul hu.2 hv.2 hv.1 (by decide)
   _=_:=by decide
 refine ⟨a*c,a*d,b*c,b*d,(bd hx1 hy1).1,(bd hx1 hy1).2,(bd hx1 hy0).1,(bd hx1 hy0).2,(bd hx0 hy1).1,(bd hx0 hy1).2,(bd hx0 hy0).1,(bd hx0 hy0).2,rfl,rfl,rfl,rfl,?_⟩;rw [ex,ey]
 grind
theorem MU {x y:Int} (hx:U64 x) (hy:U64 y):iI x y=some (x*y / 18446744073709551616,x*y%18446744073709551616):=by
 unfold iI;obtain ⟨p,q,r,s,p0,p1,q0,q1,r0,r1,s0,s1,ep,eq,er,es,exy⟩:=aCc x y hx hy;have key: ∀z:Int,J8 .u64 (z%18446744073709551616) 4294967295=z%18446744073709551616%4294967296:=fun z=>WC (by constructor<;>omega)
 simp only [aOV,WC hx,WC hy,wu,key,ep,eq,er,es,exy,Option.some.injEq,Prod.mk.injEq,and_true];clear ep eq er es exy key hx hy;have e1:s%18446744073709551616=s:=by omega
 have e2:(q+s / 4294967296)%18446744073709551616=q+s / 4294967296:=by omega
 have ep:p%18446744073709551616=p:=by omega
 have eq:q%18446744073709551616=q:=by omega
 have er:r%18446744073709551616=r:=by omega
 rw [e1,ep,eq,er,e2];have e3:s=s / 4294967296*4294967296+s%4294967296:=by omega
 have e4:q+s / 4294967296=(q+s / 4294967296) / 4294967296*4294967296+(q+s / 4294967296)%4294967296:=by omega
 have b1:0<=s%4294967296/\s%4294967296<4294967296:=by omega
 have b2:0<=(q+s / 4294967296)%4294967296/\(q+s / 4294967296)%4294967296<4294967296:=by omega
 have b3:0<=(q+s / 4294967296) / 4294967296/\(q+s / 4294967296) / 4294967296<=4294967295:=by omega
 have b4:0<=s / 4294967296/\s / 4294967296<=4294967295:=by omega
 generalize (q+s / 4294967296) / 4294967296=t1 at*;generalize (q+s / 4294967296)%4294967296=t0 at*;generalize s / 4294967296=c1 at*;generalize s%4294967296=c0 at*;clear e1 e2;have e5:(t0+r)%18446744073709551616=t0+r:=by omega
 rw [e5];have e6:t0+r=(t0+r) / 4294967296*4294967296+(t0+r)%4294967296:=by omega
 have b5:0<=(t0+r)%4294967296/\(t0+r)%4294967296<4294967296:=by omega
 have b6:0<=(t0+r) / 4294967296/\(t0+r) / 4294967296<=4294967295:=by omega
 generalize (t0+r) / 4294967296=u1 at*;generalize (t0+r)%4294967296=u0 at*;omega
theorem WE {x y:Int} (hx:U64 x) (hy:U64 y):sN x y=some (false,x*y / 18446744073709551616,x*y%18446744073709551616):=by
 unfold sN;obtain ⟨p,q,r,s,p0,p1,q0,q1,r0,r1,s0,s1,ep,eq,er,es,exy⟩:=aCc x y hx hy;have t1: ∀a:Int,0<=a->Int.tdiv a 4294967296=a / 4294967296:=fun a h=>Int.tdiv_eq_ediv_of_nonneg h
 have t2: ∀a:Int,0<=a->Int.tmod a 4294967296=a%4294967296:=fun a h=>Int.tmod_eq_emod_of_nonneg h
 simp only [wu];rw [t1 x hx.1,t1 y hy.1,t2 x hx.1,t2 y hy.1];have f1:x / 4294967296%18446744073709551616=x / 4294967296:=by omega
 have f2:y / 4294967296%18446744073709551616=y / 4294967296:=by omega
 simp only [f1,f2,ep,eq,er,es];have g: ∀a:Int,Int.tdiv (a%18446744073709551616) 4294967296=a%18446744073709551616 / 4294967296:=fun a=>t1 _ (by omega)
 have g2: ∀a:Int,Int.tmod (a%18446744073709551616) 4294967296=a%18446744073709551616%4294967296:=fun a=>t2 _ (by omega)
 simp only [g,g2,exy,Option.some.injEq,Prod.mk.injEq,true_and];constructor<;>omega
abbrev B64 (a:Bool×Int×Int):Prop:=U64 a.2.1/\U64 a.2.2
theorem EF {n:Int} (h:BG n):U64 (n.natAbs:Int):=by constructor<;>omega
theorem EG {n:Int} (h:BG n):(n.natAbs:Int)<=9223372036854775808:=by omega
theorem HF (a b:Int):((a.natAbs:Int)*(b.natAbs:Int))=((a*b).natAbs:Int):=by rw [Int.natAbs_mul];rfl
theorem wQ {a b:Int} (ha:BG a) (hb:BG b):((a*b).natAbs:Int)<=85070591730234615865843651857942052864:=by
 rw [<- HF]
 calc (a.natAbs:Int)*(b.natAbs:Int)<=9223372036854775808*9223372036854775808:=Int.mul_le_mul (EG ha) (EG hb) (by omega) (by decide)
  _=_:=by decide
theorem BI {a b:Int} (ha:BG a) (hb:BG b):
 kH a b=some (decide (a*b<0),((a*b).natAbs:Int) / 18446744073709551616,((a*b).natAbs:Int)%18446744073709551616):=by
 unfold kH;simp only [kI ha,kI hb,aB,WE (EF ha) (EF hb),HF];have hs:(a*b<0)↔((a<0/\0<b)\/(0<a/\b<0)):=by
  constructor
  · intro h
    rcases Int.lt_trichotomy a 0 with h1|h1|h1
    · rcases Int.lt_trichotomy b 0 with h2|h2|h2
      · have:=Int.mul_pos_of_neg_of_neg h1 h2;omega
      · subst h2;simp at h
      · exact .inl ⟨h1,h2⟩
    · subst h1;simp at h
    · rcases Int.lt_trichotomy b 0 with h2|h2|h2
      · exact .inr ⟨h1,h2⟩
      · subst h2;simp at h
      · have:=Int.mul_pos h1 h2;omega
  · rintro (⟨h1,h2⟩|⟨h1,h2⟩)
    · exact Int.mul_neg_of_neg_of_pos h1 h2
    · exact Int.mul_neg_of_pos_of_neg h1 h2
 have hd:decide (a*b<0)=decide ((a<0/\0<b)\/(0<a/\b<0)):=by simp only [hs]
 rw [hd];clear hd hs;generalize ((a*b).natAbs:Int)=z
 by_cases h1:a<0
 · have h1': ¬0<a:=by omega
   have h1'':(a !=0)=true:=fE (by omega)
   by_cases h2:b<0
   · have h2': ¬0<b:=by omega
     simp [h1,h2,h1',h2']
   · by_cases h3:b=0
     · simp [h1,h3,h1'']
     · have h3':0<b:=by omega
       simp [h1,h2,h3',h1'',fE h3]
 · by_cases h0:a=0
   · subst h0
     by_cases h2:b<0<;>simp [h2]
   · have h1':0<a:=by omega
     by_cases h2:b<0
     · have h2':(b !=0)=true:=fE (by omega)
       simp [h1,h2,h1',fE h0,h2']
     · simp [h1,h2,h1']
theorem T0 {a b:Int} (ha:BG a) (hb:BG b):
 tI a b=some (!(decide (a<0)==decide (b<0)),((a*b).natAbs:Int) / 18446744073709551616,((a*b).natAbs:Int)%18446744073709551616):=by
 unfold tI;simp only [qT ha,qT hb,aB,MU (EF ha) (EF hb),HF]
def kL (a b:Int):Int:=if a<b then -1 else if b<a then 1 else 0
theorem E7 (a b:Int):jW a b=some (kL a b):=by
 unfold jW oO kL
 by_cases h1:a<b<;>by_cases h2:b<a<;>simp [h1,h2]
theorem N5 (a b:Int):jF a b=some (kL a b):=by
 unfold jF nR kL
 by_cases h1:a<b<;>by_cases h2:b<a<;>simp [h1,h2]
theorem lI (a b:Int):fM a b=some (kL a b):=by
 unfold fM sI kL
 by_cases h1:a<b<;>by_cases h2:b<a<;>simp [h1,h2]
theorem eB (a b:Int):(a<b/\kL a b= -1)\/(a=b/\kL a b=0)\/(b<a/\kL a b=1):=by
 unfold kL
 by_cases h1:a<b
 · exact .inl ⟨h1,by rw [if_pos h1]⟩
 · by_cases h2:b<a
   · exact .inr (.inr ⟨h2,by rw [if_neg h1,if_pos h2]⟩)
   · exact .inr (.inl ⟨by omega,by rw [if_neg h1,if_neg h2]⟩)
theorem QZ (a b:Bool×Int×Int) (ha:B64 a) (hb:B64 b):rR a b=some (kL (a.2.1*18446744073709551616+a.2.2) (b.2.1*18446744073709551616+b.2.2)):=by
 obtain ⟨s,ah,al⟩:=a;obtain ⟨t,bh,bl⟩:=b;obtain ⟨⟨a1,a2⟩,a3,a4⟩:=ha;obtain ⟨⟨b1,b2⟩,b3,b4⟩:=hb;dsimp only at*;unfold rR kL;dsimp only
 by_cases h1:ah=bh
 · subst h1
   by_cases h2:al=bl
   · subst h2;simp
   · by_cases h3:al<bl
     · simp [fE h2,h3]
     · rw [if_neg (by omega),if_pos (by omega)];simp [fE h2,h3]
 · by_cases h3:ah<bh
   · rw [if_pos (by omega)];simp [fE h1,h3]
   · rw [if_neg (by omega),if_pos (by omega)];simp [fE h1,h3]
theorem WG (a b:Bool×Int×Int) (ha:B64 a) (hb:B64 b):sL a b=some (kL (a.2.1*18446744073709551616+a.2.2) (b.2.1*18446744073709551616+b.2.2)):=by
 obtain ⟨s,ah,al⟩:=a;obtain ⟨t,bh,bl⟩:=b;obtain ⟨⟨a1,a2⟩,a3,a4⟩:=ha;obtain ⟨⟨b1,b2⟩,b3,b4⟩:=hb;dsimp only at*;unfold sL;simp only [N5,aB];unfold kL
 by_cases h1:ah=bh
 · subst h1
   by_cases h3:al<bl
   · simp [h3]
   · by_cases h2:bl<al
     · rw [if_neg (show¬(ah*18446744073709551616+al<ah*18446744073709551616+bl) by omega),if_pos (show ah*18446744073709551616+bl<ah*18446744073709551616+al by omega)];simp [h2,h3]
     · have:al=bl:=by omega
       subst this;simp
 · by_cases h3:ah<bh
   · rw [if_pos (show ah*18446744073709551616+al<bh*18446744073709551616+bl by omega)];simp [h3]
   · rw [if_neg (show¬(ah*18446744073709551616+al<bh*18446744073709551616+bl) by omega),if_pos (show bh*18446744073709551616+bl<ah*18446744073709551616+al by omega)];simp [h3,show bh<ah by omega]
theorem xV (a:Bool) {n:Int} (h0:0<=n) (h:n<=85070591730234615865843651857942052864):B64 (a,n / 18446744073709551616,n%18446744073709551616):=by
 constructor<;>constructor<;>dsimp only<;>omega
theorem Q0 {n:Int} (h:(n.natAbs:Int)<=85070591730234615865843651857942052864):lZ (decide (n<0),(n.natAbs:Int) / 18446744073709551616,(n.natAbs:Int)%18446744073709551616)=some (kL n 0):=by
 unfold lZ kL;dsimp only
 by_cases h0:n=0
 · subst h0;simp
 · by_cases h1:n<0
   · rw [if_pos h1]
     by_cases h2:(n.natAbs:Int) / 18446744073709551616=0
     · have h3: ¬((n.natAbs:Int)%18446744073709551616=0):=by omega
       simp [h1,h2,fW h3]
     · simp [h1,fW h2]
   · rw [if_neg h1,if_pos (by omega)]
     by_cases h2:(n.natAbs:Int) / 18446744073709551616=0
     · have h3: ¬((n.natAbs:Int)%18446744073709551616=0):=by omega
       simp [h1,h2,fW h3]
     · simp [h1,fW h2]
def mR (a b:Int×Int):Int:=kL (a.1*b.2) (b.1*a.2)
theorem BJ {a b:Int×Int} (ha:mU a) (hb:mU b):mO a b=some (mR a b):=by
 unfold mO mR;have n1:=wQ ha.1 hb.2;have n2:=wQ hb.1 ha.2;simp only [BI ha.1 hb.2,BI hb.1 ha.2,aB,Q0 n1,Q0 n2];generalize a.1*b.2=x at*;generalize b.1*a.2=y at*;rw [QZ _ _ (xV _ (by omega) n1) (xV _ (by omega) n2),QZ _ _ (xV _ (by omega) n2) (xV _ (by omega) n1)]
 have ex:((x.natAbs:Int) / 18446744073709551616)*18446744073709551616+(x.natAbs:Int)%18446744073709551616=(x.natAbs:Int):=by omega
 have ey:((y.natAbs:Int) / 18446744073709551616)*18446744073709551616+(y.natAbs:Int)%18446744073709551616=(y.natAbs:Int):=by omega
 simp only [ex,ey,aB];rcases eB x 0 with ⟨h1,e1⟩|⟨h1,e1⟩|⟨h1,e1⟩<;>rcases eB y 0 with ⟨h2,e2⟩|⟨h2,e2⟩|⟨h2,e2⟩<;>rw [e1,e2]<;>simp<;>
  unfold kL<;>(repeat' split)<;>first|rfl|omega
theorem aJe {a b:Int×Int} (ha:mU a) (hb:mU b):A7 a b=some (if bM a/\bM b then 0 else 8):=by
 unfold A7;simp only [dU ha,dU hb,aB]
 by_cases h1:bM a<;>by_cases h2:bM b<;>simp [h1,h2]
theorem MV {a b:Int×Int} (ha:mU a) (hb:mU b):rM a b=some (if bM a/\bM b then (mR a b,0) else (0,8)):=by
 unfold rM;rw [aJe ha hb]
 by_cases h:bM a/\bM b
 · rw [if_pos h,if_pos h]
   obtain ⟨⟨a1,a2,a3⟩,b1,b2,b3⟩:=h;have n1:=wQ ha.1 hb.2;have n2:=wQ hb.1 ha.2;simp only [aB,E7,T0 ha.1 hb.2,T0 hb.1 ha.2];rw [WG _ _ (xV _ (by omega) n1) (xV _ (by omega) n2)]
   have ex:((a.1*b.2).natAbs:Int) / 18446744073709551616*18446744073709551616+((a.1*b.2).natAbs:Int)%18446744073709551616=((a.1*b.2).natAbs:Int):=by omega
   have ey:((b.1*a.2).natAbs:Int) / 18446744073709551616*18446744073709551616+((b.1*a.2).natAbs:Int)%18446744073709551616=((b.1*a.2).natAbs:Int):=by omega
   simp only [ex,ey,aB];unfold mR;have s1:(a.1<0↔a.1*b.2<0):=by
    constructor
    · intro h;exact Int.mul_neg_of_neg_of_pos h (by omega)
    · intro h;rcases lt_or_ge a.1 0 with h1|h1
      · exact h1
      · have:=Int.mul_nonneg h1 (show 0<=b.2 by omega);omega
   have s2:(b.1<0↔b.1*a.2<0):=by
    constructor
    · intro h;exact Int.mul_neg_of_neg_of_pos h (by omega)
    · intro h;rcases lt_or_ge b.1 0 with h1|h1
      · exact h1
      · have:=Int.mul_nonneg h1 (show 0<=a.2 by omega);omega
   generalize a.1*b.2=x at*;generalize b.1*a.2=y at*
   by_cases h1:a.1<0<;>by_cases h2:b.1<0
   · have h3:=s1.1 h1;have h4:=s2.1 h2
     have:aA .i64 (-kL (x.natAbs:Int) (y.natAbs:Int))=kL x y:=by
      rw [wi];unfold kL;(repeat' split)<;>omega
     simp [h1,h2,this]
   · have h3:=s1.1 h1;have h4: ¬y<0:=fun h=>h2 (s2.2 h)
     have:kL a.1 b.1=kL x y:=by unfold kL;(repeat' split)<;>omega
     simp [h1,h2,this]
   · have h3: ¬x<0:=fun h=>h1 (s1.2 h);have h4:=s2.1 h2
     have:kL a.1 b.1=kL x y:=by unfold kL;(repeat' split)<;>omega
     simp [h1,h2,this]
   · have h3: ¬x<0:=fun h=>h1 (s1.2 h);have h4: ¬y<0:=fun h=>h2 (s2.2 h)
     have:kL (x.natAbs:Int) (y.natAbs:Int)=kL x y:=by unfold kL;(repeat' split)<;>omega
     simp [h1,h2,this]
 · rw [if_neg h,if_neg h];rfl
end Go.Proofs.YthljmpcakagceaaGreat
namespace Go.Proofs.YthljmpcakagceaaGreat
open Go.Vm Classical
abbrev Pt:=Int×Int×Int
def gO (p:Pt):Prop:=0<=p.1/\p.1<=65535/\ -1048576<=p.2.1/\p.2.1<=1048576/\ -1048576<=p.2.2/\p.2.2<=1048576
theorem CA (p:Pt):nP p=some (if gO p then 0 else 8):=by
 obtain ⟨i,a,b⟩:=p;unfold nP pZ gO;dsimp only
 by_cases h1:i<0
 · rw [if_neg (by omega)];simp [h1]
 by_cases h2:65535<i
 · rw [if_neg (by omega)];simp [h1,h2]
 by_cases h3:a< -1048576
 · rw [if_neg (by omega)];simp [h1,h2,h3]
 by_cases h4:1048576<a
 · rw [if_neg (by omega)];simp [h1,h2,h3,h4]
 by_cases h5:b< -1048576
 · rw [if_neg (by omega)];simp [h1,h2,h3,h4,h5]
 by_cases h6:1048576<b
 · rw [if_neg (by omega)];simp [h1,h2,h3,h4,h5,h6]
 rw [if_pos (by omega)];simp [h1,h2,h3,h4,h5,h6]
theorem MW (p:Pt):xO p=some (if gO p then 0 else 8):=by
 obtain ⟨i,a,b⟩:=p;unfold xO gO;dsimp only
 by_cases h1:i<0
 · rw [if_neg (by omega)];simp [h1]
 by_cases h2:65535<i
 · rw [if_neg (by omega)];simp [h1,h2]
 by_cases h3:a< -1048576
 · rw [if_neg (by omega)];simp [h1,h2,h3]
 by_cases h4:1048576<a
 · rw [if_neg (by omega)];simp [h1,h2,h3,h4]
 by_cases h5:b< -1048576
 · rw [if_neg (by omega)];simp [h1,h2,h3,h4,h5]
 by_cases h6:1048576<b
 · rw [if_neg (by omega)];simp [h1,h2,h3,h4,h5,h6]
 rw [if_pos (by omega)];simp [h1,h2,h3,h4,h5,h6]
theorem zZ {x y:Int} (hx:BG x) (hy:BG y): -85070591730234615865843651857942052864<=x*y/\x*y<=85070591730234615865843651857942052864:=by
 have:=wQ hx hy;omega
theorem aJ3 {x y:Int} (hx:BG x) (hy:BG y):(x%18446744073709551616)*(y%18446744073709551616)=x*y+(if x<0 then y else 0)*18446744073709551616+(if y<0 then x else 0)*18446744073709551616+(if x<0/\y<0 then 340282366920938463463374607431768211456 else 0):=by
 by_cases h1:x<0<;>by_cases h2:y<0
 · have e1:x%18446744073709551616=x+18446744073709551616:=by omega
   have e2:y%18446744073709551616=y+18446744073709551616:=by omega
   rw [e1,e2,if_pos h1,if_pos h2,if_pos ⟨h1,h2⟩];grind
 · have e1:x%18446744073709551616=x+18446744073709551616:=by omega
   have e2:y%18446744073709551616=y:=by omega
   rw [e1,e2,if_pos h1,if_neg h2,if_neg (fun h=>h2 h.2)];grind
 · have e1:x%18446744073709551616=x:=by omega
   have e2:y%18446744073709551616=y+18446744073709551616:=by omega
   rw [e1,e2,if_neg h1,if_pos h2,if_neg (fun h=>h1 h.1)];grind
 · have e1:x%18446744073709551616=x:=by omega
   have e2:y%18446744073709551616=y:=by omega
   rw [e1,e2,if_neg h1,if_neg h2,if_neg (fun h=>h1 h.1)];grind
theorem T1 {a b:Int} (ha:0<=a) (hb:0<=b):rG a b 0=some ((a+b)%18446744073709551616,(a+b) / 18446744073709551616):=by
 unfold rG;simp [ha,hb]
theorem aCd {a b c d u v:Int} (ha:BG a) (hb:BG b):oF (a,b,c,d,0,u,v,0,0)=some (.next (a,b,c,d,1,u,v,a*b / 18446744073709551616,a*b%18446744073709551616)):=by
 unfold oF;have hm:=MU (x:=aA .u64 a) (y:=aA .u64 b) (by rw [wu];constructor<;>omega) (by rw [wu];constructor<;>omega)
 have hb2:=zZ ha hb;have hu:=aJ3 ha hb;simp only [hm,aB];simp only [wu,hu];generalize a*b=x at*
 by_cases h1:a<0<;>by_cases h2:b<0
 all_goals
  simp only [h1,h2,decide_true,decide_false,cond_true,cond_false,if_true,if_false,and_self,and_false,false_and];rw [T1 (by omega) (by omega)]
  simp only [wi,aB,show decide ((0:Int)<2)=true from rfl,cond_true,show ((0:Int)==0)=true from rfl,Option.some.injEq,cA.next.injEq,Prod.mk.injEq,true_and]
  refine ⟨by omega,?_,?_⟩<;>omega
theorem aCe {a b c d u v h l:Int} (hc:BG c) (hd:BG d) (hl:U64 l)
 (_hh: -9223372036854775808<=h/\h<9223372036854775808) (hs: -170141183460469231731687303715884105728<=h*18446744073709551616+l+c*d/\h*18446744073709551616+l+c*d<170141183460469231731687303715884105728):
 oF (a,b,c,d,1,u,v,h,l)=some (.next (a,b,c,d,2,u,v,(h*18446744073709551616+l+c*d) / 18446744073709551616,(h*18446744073709551616+l+c*d)%18446744073709551616)):=by
 unfold oF;have hm:=MU (x:=aA .u64 c) (y:=aA .u64 d) (by rw [wu];constructor<;>omega) (by rw [wu];constructor<;>omega)
 have hb2:=zZ hc hd;have hu:=aJ3 hc hd;simp only [hm,aB];simp only [wu,hu];generalize c*d=x at*
 by_cases h1:c<0<;>by_cases h2:d<0
 all_goals
  simp only [h1,h2,decide_true,decide_false,cond_true,cond_false,if_true,if_false,and_self,and_false,false_and];rw [T1 (by omega) (by omega)]
  simp only [wi,aB,show decide ((1:Int)<2)=true from rfl,cond_true,cond_false,show ((1:Int)==0)=false from rfl,show ((1:Int)==1)=true from rfl,Option.some.injEq,cA.next.injEq,Prod.mk.injEq,true_and]
  refine ⟨by omega,?_,?_⟩<;>omega
theorem N6 {a b c d:Int} (ha:BG a) (hb:BG b) (hc:BG c) (hd:BG d) (hs: -170141183460469231731687303715884105728<=a*b+c*d/\a*b+c*d<170141183460469231731687303715884105728):
 A6 (a,b,c,d)=some ((a*b+c*d) / 18446744073709551616,(a*b+c*d)%18446744073709551616):=by
 unfold A6;dsimp only;have hb2:=zZ ha hb;have e:a*b / 18446744073709551616*18446744073709551616+a*b%18446744073709551616+c*d=a*b+c*d:=by omega
 rw [aX (aCd ha hb),aX (aCe hc hd (by constructor<;>omega) (by constructor<;>omega) (by rw [e];exact hs)),e]
 exact aL rfl
def MX (p q:Pt) (t:Int×Int):Int:=(p.2.1-q.2.1)*t.2+(p.2.2-q.2.2)*t.1
def dV (p q:Pt) (t:Int×Int):Prop:=0<MX p q t\/(MX p q t=0/\(q.2.2<p.2.2\/(p.2.2=q.2.2/\p.1<q.1)))
def WH (p q:Pt) (t:Int×Int):Int:=if MX p q t<0 then -1 else if 0<MX p q t then 1 else if p.2.2<q.2.2 then -1 else if q.2.2<p.2.2 then 1 else kL q.1 p.1
theorem MY (p q:Pt) (t:Int×Int):0<WH p q t↔dV p q t:=by
 unfold WH dV
 by_cases h1:MX p q t<0
 · rw [if_pos h1];omega
 · by_cases h2:0<MX p q t
   · rw [if_neg h1,if_pos h2];simp [h2]
   · rw [if_neg h1,if_neg h2]
     by_cases h3:p.2.2<q.2.2
     · rw [if_pos h3];omega
     · by_cases h4:q.2.2<p.2.2
       · rw [if_neg h3,if_pos h4];omega
       · rw [if_neg h3,if_neg h4]
         rcases eB q.1 p.1 with ⟨h,e⟩|⟨h,e⟩|⟨h,e⟩<;>rw [e]<;>omega
theorem EH (a b:Int):wE [a,b]=some (if a≠0 then a else b):=by
 unfold wE
 by_cases h1:a=0
 · subst h1
   rw [aX (y:=(0,[0,b],2,1)) (by rfl)]
   by_cases h2:b=0
   · subst h2
     rw [aX (y:=(0,[0,0],2,2)) (by rfl)]
     exact aL rfl
   · refine (aL (r:=b) ?_).trans (by simp)
     have e:yL (0,[0,b],2,1)=(bif b !=0 then some (.done b) else some (.next (0,[0,b],2,aA .i64 (1+1)))):=rfl
     rw [e,fE h2];rfl
 · refine (aL (r:=a) ?_).trans (by simp [h1])
   have e:yL (0,[a,b],Int.ofNat [a,b].length,0)=(bif a !=0 then some (.done a) else some (.next (0,[a,b],Int.ofNat [a,b].length,aA .i64 (0+1)))):=rfl
   rw [e,fE h1];rfl
theorem aCf {p q:Pt} {t:Int×Int} (hp:gO p) (hq:gO q) (ht:mU t):BG (p.2.1-q.2.1)/\BG (p.2.2-q.2.2)/\ -170141183460469231731687303715884105728<=MX p q t/\MX p q t<170141183460469231731687303715884105728:=by
 obtain ⟨a1,a2,a3,a4,a5,a6⟩:=hp;obtain ⟨b1,b2,b3,b4,b5,b6⟩:=hq;have h1:BG (p.2.1-q.2.1):=by constructor<;>omega
 have h2:BG (p.2.2-q.2.2):=by constructor<;>omega
 refine ⟨h1,h2,?_⟩;have k: ∀{x y:Int},-2097152<=x/\x<=2097152->BG y-> -19342813113834066795298816<=x*y/\x*y<=19342813113834066795298816:=by
  intro x y hx hy
  have:((x*y).natAbs:Int)<=2097152*9223372036854775808:=by
   rw [<- HF];exact Int.mul_le_mul (by omega) (EG hy) (by omega) (by decide)
  omega
 have k1:=k (x:=p.2.1-q.2.1) (by omega) ht.2
 have k2:=k (x:=p.2.2-q.2.2) (by omega) ht.1
 unfold MX;omega
theorem xW {p q:Pt} {t:Int×Int} (hp:gO p) (hq:gO q) (ht:mU t):nD p q t=some (WH p q t):=by
 obtain ⟨g1,g2,g3⟩:=aCf hp hq ht;unfold nD;rw [B9 g1,B9 g2,N6 g1 ht.2 g2 ht.1 g3];simp only [aB,E7,lI,EH];rw [show (p.2.1-q.2.1)*t.2+(p.2.2-q.2.2)*t.1=MX p q t from rfl];unfold WH;generalize MX p q t=n at*
 by_cases h1:n<0
 · have e1:(n / 18446744073709551616==0)=false:=by simp;omega
   have e2:decide (n / 18446744073709551616<0)=true:=by simp;omega
   rw [if_pos h1];simp [e1,e2]
 · by_cases h2:0<n
   · have e1:((n / 18446744073709551616==0)&&(n%18446744073709551616==0))=false:=by simp;omega
     have e2:decide (n / 18446744073709551616<0)=false:=by simp;omega
     rw [if_neg h1,if_pos h2];simp only [e1,e2,Bool.not_false,cond_true,cond_false]
   · have:n=0:=by omega
     subst this;rw [if_neg h1,if_neg h2];unfold kL
     by_cases h3:p.2.2<q.2.2
     · simp [h3]
     · by_cases h4:q.2.2<p.2.2
       · simp [h3,h4]
       · simp [h3,h4]
theorem aJf {x y:Int} (hx: -85070591730234615865843651857942052864<=x/\x<=85070591730234615865843651857942052864) (hy: -85070591730234615865843651857942052864<=y/\y<=85070591730234615865843651857942052864):
 BB (decide (x<0),(x.natAbs:Int) / 18446744073709551616,(x.natAbs:Int)%18446744073709551616) (decide (y<0),(y.natAbs:Int) / 18446744073709551616,(y.natAbs:Int)%18446744073709551616)=
  some (decide (x+y<0),((x+y).natAbs:Int) / 18446744073709551616,((x+y).natAbs:Int)%18446744073709551616):=by
 have n1:(x.natAbs:Int)<=85070591730234615865843651857942052864:=by omega
 have n2:(y.natAbs:Int)<=85070591730234615865843651857942052864:=by omega
 unfold BB;rw [QZ _ _ (xV _ (by omega) n1) (xV _ (by omega) n2)]
 have ex:((x.natAbs:Int) / 18446744073709551616)*18446744073709551616+(x.natAbs:Int)%18446744073709551616=(x.natAbs:Int):=by omega
 have ey:((y.natAbs:Int) / 18446744073709551616)*18446744073709551616+(y.natAbs:Int)%18446744073709551616=(y.natAbs:Int):=by omega
 simp only [ex,ey,aB];have same: ∀{X Y Z:Int},0<=X->0<=Y->X<=85070591730234615865843651857942052864->Y<=85070591730234615865843651857942052864->Z=X+Y-> ∀b:Bool,
  (bif decide (aA .u64 (X%18446744073709551616+Y%18446744073709551616)<X%18446744073709551616) then some (b,aA .u64 (aA .u64 (X / 18446744073709551616+Y / 18446744073709551616)+1),aA .u64 (X%18446744073709551616+Y%18446744073709551616))
   else some (b,aA .u64 (X / 18446744073709551616+Y / 18446744073709551616),aA .u64 (X%18446744073709551616+Y%18446744073709551616)))=some (b,Z / 18446744073709551616,Z%18446744073709551616):=by
  intro X Y Z h1 h2 h3 h4 h5 b;subst h5;simp only [wu]
  by_cases h:(X%18446744073709551616+Y%18446744073709551616)%18446744073709551616<X%18446744073709551616
  · simp only [h,decide_true,cond_true,Option.some.injEq,Prod.mk.injEq,true_and];constructor<;>omega
  · simp only [h,decide_false,cond_false,Option.some.injEq,Prod.mk.injEq,true_and];constructor<;>omega
 have minus: ∀{X Y Z:Int} (b c:Bool),0<=X->0<=Y->X<=85070591730234615865843651857942052864->Y<=X->Z=X-Y->tU (b,X / 18446744073709551616,X%18446744073709551616) (c,Y / 18446744073709551616,Y%18446744073709551616)=some (false,Z / 18446744073709551616,Z%18446744073709551616):=by
  intro X Y Z b c h1 h2 h3 h4 h5;subst h5;unfold tU;simp only [wu]
  by_cases h:X%18446744073709551616<Y%18446744073709551616
  · simp only [h,decide_true,cond_true,Option.some.injEq,Prod.mk.injEq,true_and];constructor<;>omega
  · simp only [h,decide_false,cond_false,Option.some.injEq,Prod.mk.injEq,true_and];constructor<;>omega
 by_cases h1:x<0<;>by_cases h2:y<0
 · have h3:x+y<0:=by omega
   simp only [h1,h2,h3,decide_true,beq_self_eq_true,cond_true];exact same (by omega) (by omega) n1 n2 (by omega) true
 · simp only [h1,h2,decide_true,decide_false,show (true==false)=false from rfl,cond_false,cond_true]
   by_cases h3:(y.natAbs:Int)<=(x.natAbs:Int)
   · have e:decide (0<=kL (x.natAbs:Int) (y.natAbs:Int))=true:=by
      rcases eB (x.natAbs:Int) (y.natAbs:Int) with ⟨h,e⟩|⟨h,e⟩|⟨h,e⟩<;>rw [e]<;>first|rfl|omega
     rw [e,minus (Z:=((x+y).natAbs:Int)) _ _ (by omega) (by omega) n1 h3 (by omega)]
     simp only [cond_true,aB]
     by_cases h4:x+y=0
     · rw [h4];rfl
     · have h5:x+y<0:=by omega
       by_cases h6:0<((x+y).natAbs:Int) / 18446744073709551616
       · simp [h5,h6]
       · have h7:0<((x+y).natAbs:Int)%18446744073709551616:=by omega
         simp only [h5,h6,h7,decide_true,decide_false,cond_false]
   · have e:decide (0<=kL (x.natAbs:Int) (y.natAbs:Int))=false:=by
      rcases eB (x.natAbs:Int) (y.natAbs:Int) with ⟨h,e⟩|⟨h,e⟩|⟨h,e⟩<;>rw [e]<;>first|rfl|omega
     rw [e,minus (Z:=((x+y).natAbs:Int)) _ _ (by omega) (by omega) n2 (by omega) (by omega)]
     have h5: ¬(x+y<0):=by omega
     simp [h5]
 · simp only [h1,h2,decide_true,decide_false,show (false==true)=false from rfl,cond_false]
   by_cases h3:(y.natAbs:Int)<=(x.natAbs:Int)
   · have e:decide (0<=kL (x.natAbs:Int) (y.natAbs:Int))=true:=by
      rcases eB (x.natAbs:Int) (y.natAbs:Int) with ⟨h,e⟩|⟨h,e⟩|⟨h,e⟩<;>rw [e]<;>first|rfl|omega
     rw [e,minus (Z:=((x+y).natAbs:Int)) _ _ (by omega) (by omega) n1 h3 (by omega)]
     have h5: ¬(x+y<0):=by omega
     simp [h5]
   · have e:decide (0<=kL (x.natAbs:Int) (y.natAbs:Int))=false:=by
      rcases eB (x.natAbs:Int) (y.natAbs:Int) with ⟨h,e⟩|⟨h,e⟩|⟨h,e⟩<;>rw [e]<;>first|rfl|omega
     rw [e,minus (Z:=((x+y).natAbs:Int)) _ _ (by omega) (by omega) n2 (by omega) (by omega)]
     have h5:x+y<0:=by omega
     simp [h5]
 · have h3: ¬(x+y<0):=by omega
   simp only [h1,h2,h3,decide_false,beq_self_eq_true,cond_true];exact same (by omega) (by omega) n1 n2 (by omega) false
theorem aOX {p q:Pt} {t:Int×Int} (hp:gO p) (hq:gO q) (ht:mU t):ED p q t=some (kL (MX p q t) 0):=by
 obtain ⟨g1,g2,g3⟩:=aCf hp hq ht;unfold ED;rw [B9 g1,B9 g2,BI g1 ht.2,BI g2 ht.1];simp only [aB];rw [aJf (zZ g1 ht.2) (zZ g2 ht.1)];simp only [aB];rw [show (p.2.1-q.2.1)*t.2+(p.2.2-q.2.2)*t.1=MX p q t from rfl];obtain ⟨a1,a2,a3,a4,a5,a6⟩:=hp;obtain ⟨b1,b2,b3,b4,b5,b6⟩:=hq
 have k: ∀{x y:Int},-2097152<=x/\x<=2097152->BG y-> -19342813113834066795298816<=x*y/\x*y<=19342813113834066795298816:=by
  intro x y hx hy
  have:((x*y).natAbs:Int)<=2097152*9223372036854775808:=by
   rw [<- HF];exact Int.mul_le_mul (by omega) (EG hy) (by omega) (by decide)
  omega
 have k1:=k (x:=p.2.1-q.2.1) (by omega) ht.2
 have k2:=k (x:=p.2.2-q.2.2) (by omega) ht.1
 have:((MX p q t).natAbs:Int)<=85070591730234615865843651857942052864:=by unfold MX;omega
 rw [Q0 this];rfl
theorem HG {p q:Pt} {t:Int×Int} (hp:gO p) (hq:gO q) (ht:mU t):nG p q t=some (decide (dV p q t)):=by
 unfold nG dV;rw [aOX hp hq ht];simp only [aB];rcases eB (MX p q t) 0 with ⟨h,e⟩|⟨h,e⟩|⟨h,e⟩<;>rw [e]
 · have h1: ¬(0<MX p q t):=by omega
   have h2: ¬(MX p q t=0):=by omega
   simp [h1,h2]
 · rw [h]
   by_cases h3:p.2.2=q.2.2
   · simp [h3]
   · simp [h3,fE h3]
 · simp [h]
theorem yT {p q:Pt} {t:Int×Int} (ht:mU t):rI p q t=some (if gO p/\gO q/\bM t then (if p.1=q.1 then 2 else 0) else 8):=by
 unfold rI;simp only [CA,dU ht,aB]
 by_cases h4:p.1=q.1
 · by_cases h1:gO p<;>by_cases h2:gO q<;>by_cases h3:bM t<;>simp [h1,h2,h3,h4]
 · have h5:=fW h4
   by_cases h1:gO p<;>by_cases h2:gO q<;>by_cases h3:bM t<;>simp [h1,h2,h3,h4,h5]
theorem aJg {n d:Int} (hn:BG n) (hd:BG d):A8 n d=nH n d:=by
 unfold A8 nH
 by_cases h0:d=0
 · subst h0;rfl
 · have e0:(d==0)=false:=by simpa using h0
   simp only [e0,cond_false,qT hn,qT hd,kI hn,kI hd,aB,E6,sB];have hp:0<Nat.gcd n.natAbs d.natAbs:=Nat.gcd_pos_of_pos_right _ (by omega)
   have e1:((Nat.gcd n.natAbs d.natAbs:Int)==0)=false:=by simp;omega
   simp only [e1,cond_false];unfold C6 rS;simp only [show decide ((0:Int)<0)=false from rfl,cond_false]
   by_cases h3:n=0
   · subst h3
     have z: ∀k:Int,aA .u64 (Int.tdiv (((0:Int).natAbs:Nat):Int) k)=0:=fun k=>by
      rw [show (((0:Int).natAbs:Nat):Int)=0 from rfl,Int.zero_tdiv];rfl
     have z2:aA .i64 0=0:=rfl;have z3:aA .i64 (0-0)=0:=rfl;simp only [z,z2,z3,show ((0:Int) !=0)=false from rfl,cond_false,show decide ((0:Int)<0)=false from rfl];cases (!(false==decide (d<0)))<;>simp
   · simp only [fE h3]
     cases (!(decide (n<0)==decide (d<0)))<;>rfl
noncomputable def met (p q:Pt):Int×Int:=((nH (p.2.1-q.2.1) (q.2.2-p.2.2)).getD ((0,0),0)).1
theorem WI {n d:Int} (hn: -2097152<=n/\n<=2097152) (hd: -2097152<=d/\d<=2097152) (h0:d≠0): ∃r,nH n d=some (r,0)/\bM r/\mU r/\r.1*d=n*r.2:=by
 have hn':BG n:=by constructor<;>omega
 have hd':BG d:=by constructor<;>omega
 unfold nH;have e0:(d==0)=false:=by simpa using h0
 have hp:0<Nat.gcd n.natAbs d.natAbs:=Nat.gcd_pos_of_pos_right _ (by omega)
 have e1:((Nat.gcd n.natAbs d.natAbs:Int)==0)=false:=by simp;omega
 simp only [e0,cond_false,kI hn',kI hd',aB,sB,e1];have q1:Int.tdiv (n.natAbs:Int) (Nat.gcd n.natAbs d.natAbs:Int)=((n.natAbs / Nat.gcd n.natAbs d.natAbs:Nat):Int):=by
  rw [Int.ofNat_tdiv]
 have q2:Int.tdiv (d.natAbs:Int) (Nat.gcd n.natAbs d.natAbs:Int)=((d.natAbs / Nat.gcd n.natAbs d.natAbs:Nat):Int):=by
  rw [Int.ofNat_tdiv]
 rw [q1,q2];have l1:n.natAbs / Nat.gcd n.natAbs d.natAbs<=2097152:=Nat.le_trans (Nat.div_le_self _ _) (by omega)
 have l2:d.natAbs / Nat.gcd n.natAbs d.natAbs<=2097152:=Nat.le_trans (Nat.div_le_self _ _) (by omega)
 have l3:1<=d.natAbs / Nat.gcd n.natAbs d.natAbs:=Nat.div_pos (Nat.le_of_dvd (by omega) (Nat.gcd_dvd_right _ _)) hp
 have co:Nat.gcd (d.natAbs / Nat.gcd n.natAbs d.natAbs) (n.natAbs / Nat.gcd n.natAbs d.natAbs)=1:=by
  rw [Nat.gcd_comm,Nat.gcd_div (Nat.gcd_dvd_left _ _) (Nat.gcd_dvd_right _ _)];exact Nat.div_self hp
 have v1:n.natAbs=Nat.gcd n.natAbs d.natAbs*(n.natAbs / Nat.gcd n.natAbs d.natAbs):=(Nat.mul_div_cancel' (Nat.gcd_dvd_left _ _)).symm;have v2:d.natAbs=Nat.gcd n.natAbs d.natAbs*(d.natAbs / Nat.gcd n.natAbs d.natAbs):=(Nat.mul_div_cancel' (Nat.gcd_dvd_right _ _)).symm
 have val:(n.natAbs:Int)*((d.natAbs / Nat.gcd n.natAbs d.natAbs:Nat):Int)=(d.natAbs:Int)*((n.natAbs / Nat.gcd n.natAbs d.natAbs:Nat):Int):=by
  generalize n.natAbs / Nat.gcd n.natAbs d.natAbs=a at*;generalize d.natAbs / Nat.gcd n.natAbs d.natAbs=b at*;generalize Nat.gcd n.natAbs d.natAbs=g at*;rw [v1,v2,Int.natCast_mul,Int.natCast_mul,Int.mul_assoc,Int.mul_assoc,Int.mul_comm (a:Int) (b:Int)]
 clear v1 v2;generalize n.natAbs / Nat.gcd n.natAbs d.natAbs=a at*;generalize d.natAbs / Nat.gcd n.natAbs d.natAbs=b at*;have w1:aA .u64 (a:Int)=a:=by rw [wu];omega
 have w2:aA .u64 (b:Int)=b:=by rw [wu];omega
 have made: ∀s:Bool,rS s (false,0,(a:Int)) (false,0,(b:Int))=some ((if s=true then -(a:Int) else a,(b:Int)),0):=by
  intro s;unfold rS;have d1:decide (9223372036854775807<(a:Int))=false:=by simp;omega
  have d2:decide (9223372036854775807<(b:Int))=false:=by simp;omega
  have v1:aA .i64 (a:Int)=a:=by rw [wi];omega
  have v2:aA .i64 (b:Int)=b:=by rw [wi];omega
  have v3:aA .i64 (0- (a:Int))= -(a:Int):=by rw [wi];omega
  simp only [show decide ((0:Int)<0)=false from rfl,cond_false,d1,d2,v1,v2,v3];cases s<;>simp
 have fin: ∀s:Bool,(if s=true then -(a:Int) else a)*d=n*b-> ∃r,(some ((if s=true then -(a:Int) else a,(b:Int)),(0:Int)):Option ((Int×Int)×Int))=some (r,0)/\bM r/\mU r/\r.1*d=n*r.2:=by
  intro s hv;refine ⟨_,rfl,?_,?_,hv⟩
  · unfold bM
    dsimp only;refine ⟨by omega,?_,?_⟩
    · cases s
      · simp only [Bool.false_eq_true,if_false];omega
      · simp only [if_true];omega
    · rw [show (if s=true then -(a:Int) else (a:Int)).natAbs=a by cases s<;>simp,show ((b:Int)).natAbs=b by omega];exact co
  · constructor
    · dsimp only;cases s
      · simp only [Bool.false_eq_true,if_false];constructor<;>omega
      · simp only [if_true];constructor<;>omega
    · dsimp only;constructor<;>omega
 simp only [w1,w2,made,aB]
 by_cases h1:(!(decide (n<0)==decide (d<0)))=true
 · rw [h1]
   refine fin (n !=0) ?_
   by_cases hn0:n=0
   · subst hn0
     have a0:(a:Int)=0:=by
      have:((d.natAbs:Nat):Int)*(a:Int)=0:=by rw [<- val];simp
      rcases Int.mul_eq_zero.1 this with h|h
      · omega
      · exact h
     simp [a0]
   · have e:(n !=0)=true:=by simpa using hn0
     rw [e,if_pos rfl]
     by_cases hneg:n<0
     · have hd0: ¬d<0:=fun k=>by simp [hneg,k] at h1
       have x1:(n.natAbs:Int)= -n:=by omega
       have x2:(d.natAbs:Int)=d:=by omega
       rw [x1,x2,Int.neg_mul] at val;rw [Int.neg_mul,Int.mul_comm];omega
     · have hd0:d<0:=by
        by_cases k:d<0
        · exact k
        · simp [hneg,k] at h1
       have x1:(n.natAbs:Int)=n:=by omega
       have x2:(d.natAbs:Int)= -d:=by omega
       rw [x1,x2,Int.neg_mul] at val;rw [Int.neg_mul,Int.mul_comm];omega
 · rw [Bool.not_eq_true] at h1;rw [h1]
   refine fin false ?_;rw [if_neg (by simp)]
   by_cases hneg:n<0
   · have hd0:d<0:=by
      by_cases k:d<0
      · exact k
      · simp [hneg,k] at h1
     have x1:(n.natAbs:Int)= -n:=by omega
     have x2:(d.natAbs:Int)= -d:=by omega
     rw [x1,x2,Int.neg_mul,Int.neg_mul] at val;rw [Int.mul_comm];omega
   · have hd0: ¬d<0:=fun k=>by simp [hneg,k] at h1
     have x1:(n.natAbs:Int)=n:=by omega
     have x2:(d.natAbs:Int)=d:=by omega
     rw [x1,x2] at val;rw [Int.mul_comm];omega
theorem I5 {p q:Pt} (hp:gO p) (hq:gO q) (h:p.2.2≠q.2.2):nH (p.2.1-q.2.1) (q.2.2-p.2.2)=some (met p q,0)/\bM (met p q)/\mU (met p q)/\(met p q).1*(q.2.2-p.2.2)=(p.2.1-q.2.1)*(met p q).2:=by
 obtain ⟨a1,a2,a3,a4,a5,a6⟩:=hp;obtain ⟨b1,b2,b3,b4,b5,b6⟩:=hq;obtain ⟨r,h1,h2,h3⟩:=WI (n:=p.2.1-q.2.1) (d:=q.2.2-p.2.2) (by omega) (by omega) (by omega)
 have:met p q=r:=by unfold met;rw [h1];rfl
 rw [this];exact ⟨h1,h2,h3⟩
theorem O5 {p q:Pt} (hp:gO p) (hq:gO q):aA .i64 (p.2.1-q.2.1)=p.2.1-q.2.1/\aA .i64 (q.2.2-p.2.2)=q.2.2-p.2.2/\BG (p.2.1-q.2.1)/\BG (q.2.2-p.2.2):=by
 obtain ⟨a1,a2,a3,a4,a5,a6⟩:=hp;obtain ⟨b1,b2,b3,b4,b5,b6⟩:=hq;have h1:BG (p.2.1-q.2.1):=by constructor<;>omega
 have h2:BG (q.2.2-p.2.2):=by constructor<;>omega
 exact ⟨B9 h1,B9 h2,h1,h2⟩
noncomputable def mI (h l:Pt) (t:Int×Int):(Int×Int)×Bool:=if dV l h t then (t,true) else if h.2.2<l.2.2 then (met h l,true) else ((0,0),false)
theorem aOY {p q:Pt} (hp:gO p) (hq:gO q) (h:p.2.2≠q.2.2):EE p q=some (met p q):=by
 obtain ⟨w1,w2,_,_⟩:=O5 hp hq;unfold EE;rw [w1,w2,(I5 hp hq h).1];rfl
theorem WJ {h l:Pt} {t:Int×Int} (hh:gO h) (hl:gO l) (ht:mU t):sO h l t=some (mI h l t):=by
 unfold sO mI;rw [HG hl hh ht];simp only [aB]
 by_cases h1:dV l h t
 · simp [h1]
 · simp only [h1,decide_false,cond_false,if_false]
   by_cases h2:h.2.2<l.2.2
   · simp [h2,aOY hh hl (by omega)]
   · simp [h2]
theorem aCg:bM (0,1):=by unfold bM;decide
theorem KD {h l:Pt} {t:Int×Int} (ht:mU t):
 vC h l t=some (if gO h/\gO l/\bM t/\h.1≠l.1 then ((mI h l t).1,(mI h l t).2,0) else ((0,0),false,if gO h/\gO l/\bM t then 2 else 8)):=by
 unfold vC;rw [yT ht]
 by_cases h1:gO h/\gO l/\bM t
 · rw [if_pos h1]
   by_cases h2:h.1=l.1
   · simp [h1,h2]
   · obtain ⟨hh,hl,hr⟩:=h1
     rw [if_neg h2,if_pos ⟨hh,hl,hr,h2⟩];simp only [aB,show ((0:Int) !=0)=false from rfl,cond_false,xW hl hh ht];unfold mI
     by_cases h3:dV l h t
     · have:decide (0<WH l h t)=true:=by simpa using (MY l h t).2 h3
       rw [this];simp [h3]
     · have:decide (0<WH l h t)=false:=decide_eq_false fun k=>h3 ((MY l h t).1 k)
       rw [this,if_neg h3];simp only [cond_false]
       by_cases h4:h.2.2<l.2.2
       · have e:decide (l.2.2<=h.2.2)=false:=by simp;omega
         rw [e,if_pos h4];unfold C7;obtain ⟨w1,w2,i1,i2⟩:=O5 hh hl;have e2:(h.2.2==l.2.2)=false:=by simp;omega
         rw [yT (by constructor<;>constructor<;>decide),if_pos ⟨hh,hl,aCg⟩,if_neg h2]
         simp only [aB,show ((0:Int) !=0)=false from rfl,cond_false,e2,w1,w2,aJg i1 i2,(I5 hh hl (by omega)).1]
         rfl
       · have e:decide (l.2.2<=h.2.2)=true:=by simp;omega
         rw [e,if_neg h4];rfl
 · rw [if_neg h1,if_neg (fun h=>h1 ⟨h.1,h.2.1,h.2.2.1⟩),if_neg h1];rfl
theorem HH {h l:Pt} {t:Int×Int} (hh:gO h) (hl:gO l) (ht:mU t) (hr:bM t) (h2:(mI h l t).2=true):bM (mI h l t).1/\mU (mI h l t).1:=by
 unfold mI at*
 by_cases h3:dV l h t
 · rw [if_pos h3];exact ⟨hr,ht⟩
 · rw [if_neg h3] at h2 ⊢
   by_cases h4:h.2.2<l.2.2
   · rw [if_pos h4];have:=(I5 hh hl (by omega)).2;exact ⟨this.1,this.2.1⟩
   · rw [if_neg h4] at h2;cases h2
end Go.Proofs.YthljmpcakagceaaGreat
namespace Go.Proofs.YthljmpcakagceaaGreat
open Go.Vm Classical
theorem WK: ∀(n:Nat) (l:List Nat),l.Nodup->(∀x∈l,x<n)->l.length<=n
 |0,l,_,h=>by
  cases l with
  |nil=>simp
  |cons a l=>exact absurd (h a (by simp)) (by omega)
 |n+1,l,hd,h=>by
  have h1:=WK n (l.filter (fun x=>x≠n)) (hd.filter _) (by
   intro x hx;rw [List.mem_filter] at hx
   have:=h x hx.1
   have h2:x≠n:=by simpa using hx.2
   omega)
  have h2:l.length<=(l.filter (fun x=>x≠n)).length+1:=by
   clear h1 h
   induction l with
   |nil=>simp
   |cons a l ih=>
    rw [List.nodup_cons] at hd
    have:=ih hd.2
    by_cases ha:a=n
    · subst ha
      have e:l.filter (fun x=>decide (x≠a))=l:=by
       rw [List.filter_eq_self];intro x hx;simp only [ne_eq,decide_eq_true_eq];rintro rfl;exact hd.1 hx
      rw [List.filter_cons_of_neg (by simp),e];simp
    · rw [List.filter_cons_of_pos (by simpa using ha)]
      simp only [List.length_cons];omega
  omega
theorem JW {n:Nat} {l:List Nat} (hd:l.Nodup) (h: ∀x∈l,x<n) (hn:n<=l.length): ∀x,x<n->x∈l:=by
 intro x hx;refine Classical.byContradiction fun hc=>?_
 have:=WK n (x::l) (by rw [List.nodup_cons];exact ⟨hc,hd⟩) (by
  intro y hy;rcases List.mem_cons.1 hy with rfl|hy
  · exact hx
  · exact h y hy)
 simp only [List.length_cons] at this;omega
def hG (l:List Pt):Prop:= ∀i,i+1<l.length->(l[i]!).1<(l[i+1]!).1
def cB (l:List Pt):Prop:=l.length<=64/\(∀p∈l,gO p)/\hG l
noncomputable def wR (l:List Pt):Int:=if 64<l.length then 4 else if¬(∀p∈l,gO p) then 8 else if¬hG l then 32 else 0
theorem lT {l:List Pt}:wR l=0↔cB l:=by
 unfold wR cB
 by_cases h1:64<l.length
 · rw [if_pos h1];simp;omega
 · rw [if_neg h1]
   by_cases h2: ∀p∈l,gO p
   · rw [if_neg (Classical.not_not.2 h2)]
     by_cases h3:hG l
     · rw [if_neg (Classical.not_not.2 h3)]
       exact ⟨fun _=>⟨by omega,h2,h3⟩,fun _=>rfl⟩
     · rw [if_pos h3]
       exact ⟨fun h=>(by cases h),fun h=>absurd h.2.2 h3⟩
   · rw [if_pos h2]
     constructor
     · intro h;cases h
     · intro h;exact absurd h.2.1 h2
theorem bC {n:Nat} (h:n<1000000000):aA .i64 ((n:Int)+1)=((n+1:Nat):Int):=by rw [wi];omega
theorem BK {n:Nat} (h:n<1000000000) (h1:1<=n):aA .i64 ((n:Int) -1)=((n-1:Nat):Int):=by rw [wi];omega
theorem aF (n:Nat):Int.ofNat n=(n:Int):=rfl
theorem T2 (l:List Pt) (h:l.length<=64):aH jJ (1,l)=some (.done (if hG l then 0 else 32)):=by
 by_cases hl:l.length<=1
 · have:hG l:=fun i hi=>by omega
   rw [if_pos this];refine aL ?_;unfold jJ;rw [aF]
   have:decide ((1:Int)<(l.length:Int))=false:=by simp;omega
   simp [this]
 · have key:=dC (body:=jJ) (fun i=>(((i+1:Nat):Int),l)) (l.length-1) (fun i=>(l[i+1]!).1<=(l[i]!).1) (r:= .done 32) (e:= .done 0) (by
    intro i hi;have e1:decide (((i+1:Nat):Int)<(l.length:Int))=true:=by simp;omega
    have e2:aA .i64 (((i+1:Nat):Int) -1)=(i:Int):=by rw [wi];omega
    have hb:jJ (((i+1:Nat):Int),l)=bif decide ((l[i+1]!).1<=(l[i]!).1) then some (.done (.done 32)) else some (.next (((i+1+1:Nat):Int),l)):=by
     unfold jJ;simp only [aF,e1,cond_true,e2,aC l i (by omega),aC l (i+1) (by omega),aB,bC (show i+1<1000000000 by omega)]
    constructor
    · intro hc;rw [hb,decide_eq_true hc];rfl
    · intro hc;rw [hb,decide_eq_false hc];rfl) (by
    unfold jJ
    have:decide (((l.length-1+1:Nat):Int)<Int.ofNat l.length)=false:=by rw [aF];simp;omega
    simp only [this,cond_false])
   by_cases hs:hG l
   · rw [if_pos hs]
     refine key.2 fun i hi=>?_
     have:=hs i (by omega)
     omega
   · rw [if_neg hs]
     refine key.1 ?_;unfold hG at hs;simp only [Classical.not_forall] at hs;obtain ⟨i,hi,h2⟩:=hs;exact ⟨i,by omega,by omega⟩
theorem MZ (f:Field):xP f=some (wR f.points):=by
 unfold xP wR;rw [aF]
 by_cases h:64<f.points.length
 · have:decide ((64:Int)<(f.points.length:Int))=true:=by simp;omega
   rw [this,if_pos h];rfl
 · have:decide ((64:Int)<(f.points.length:Int))=false:=by simp;omega
   rw [this,if_neg h];simp only [cond_false];generalize f.points=l at*;have key:=dC (body:=nF) (fun i=>((i:Int),l)) l.length (fun i=> ¬gO l[i]!) (r:=8) (e:=if hG l then 0 else 32) (by
    intro i hi;have e1:decide ((i:Int)<(l.length:Int))=true:=by simp;omega
    have hb:nF ((i:Int),l)=bif (if gO l[i]! then (0:Int) else 8) !=0 then some (.done 8) else some (.next (((i+1:Nat):Int),l)):=by
     unfold nF;simp only [aF,e1,cond_true,aC l i (by omega),aB,MW,bC (show i<1000000000 by omega)]
    constructor
    · intro hc;rw [hb,if_neg hc];rfl
    · intro hc;rw [hb,if_pos (Classical.not_not.1 hc)];rfl) (by
    unfold nF
    have:decide ((l.length:Int)<Int.ofNat l.length)=false:=by rw [aF];simp
    simp only [this,cond_false];exact T2 l (by omega))
   by_cases hp: ∀p∈l,gO p
   · rw [if_neg (Classical.not_not.2 hp)]
     refine (key.2 fun i hi=>?_).trans ?_
     · exact Classical.not_not.2 (hp _ (bB hi))
     · by_cases hs:hG l
       · simp [hs]
       · simp [hs]
   · rw [if_pos hp]
     refine key.1 ?_;obtain ⟨p,hp⟩:=Classical.not_forall.1 hp;obtain ⟨hm,h2⟩:=Classical.not_imp.1 hp;obtain ⟨i,hi,rfl⟩:=aY.1 hm;exact ⟨i,hi,h2⟩
theorem T3 (l:List Pt) (h:l.length<=64):aH jD (l,(l.length:Int),0,l)=some (.done (if hG l then 0 else 32)):=by
 have key:=dC (body:=jD) (fun i=>(l,(l.length:Int),(i:Int),l)) l.length (fun i=>0<i/\(l[i]!).1<=(l[i-1]!).1) (r:= .done 32) (e:= .done 0) (by
  intro i hi;have e1:decide ((i:Int)<(l.length:Int))=true:=by simp;omega
  by_cases h0:0<i
  · have e3:decide ((0:Int)<(i:Int))=true:=by simp;omega
    have hb:jD (l,(l.length:Int),(i:Int),l)=bif decide ((l[i]!).1<=(l[i-1]!).1) then some (.done (.done 32)) else some (.next (l,(l.length:Int),((i+1:Nat):Int),l)):=by
     unfold jD;simp only [e1,e3,cond_true,aC l i (by omega),BK (show i<1000000000 by omega) h0,aC l (i-1) (by omega),aB,bC (show i<1000000000 by omega)]
    constructor
    · intro hc;rw [hb,decide_eq_true hc.2];rfl
    · intro hc
      have: ¬(l[i]!).1<=(l[i-1]!).1:=fun h=>hc ⟨h0,h⟩
      rw [hb,decide_eq_false this];rfl
  · have e3:decide ((0:Int)<(i:Int))=false:=by simp;omega
    constructor
    · intro hc;exact absurd hc.1 h0
    · intro _
      unfold jD;simp only [e1,e3,cond_true,cond_false,aC l i (by omega),aB,bC (show i<1000000000 by omega)]) (by
  unfold jD
  have:decide ((l.length:Int)<(l.length:Int))=false:=by simp
  simp only [this,cond_false])
 by_cases hs:hG l
 · rw [if_pos hs]
   refine key.2 fun i hi=>?_
   rintro ⟨h0,h1⟩
   have:=hs (i-1) (by omega)
   rw [show i-1+1=i by omega] at this
   omega
 · rw [if_neg hs]
   refine key.1 ?_;unfold hG at hs;simp only [Classical.not_forall] at hs;obtain ⟨i,hi,h2⟩:=hs;exact ⟨i+1,by omega,by omega,by rw [show i+1-1=i by omega];omega⟩
theorem lJ (f:Field):eK f=some (wR f.points):=by
 unfold eK wR;rw [aF]
 by_cases h:64<f.points.length
 · have:decide ((64:Int)<(f.points.length:Int))=true:=by simp;omega
   rw [this,if_pos h];rfl
 · have:decide ((64:Int)<(f.points.length:Int))=false:=by simp;omega
   rw [this,if_neg h];simp only [cond_false];generalize f.points=l at*;have key:=dC (body:=nC) (fun i=>(l,(l.length:Int),(i:Int),l)) l.length (fun i=> ¬gO l[i]!) (r:=8) (e:=if hG l then 0 else 32) (by
    intro i hi;have e1:decide ((i:Int)<(l.length:Int))=true:=by simp;omega
    have hb:nC (l,(l.length:Int),(i:Int),l)=bif (if gO l[i]! then (0:Int) else 8) !=0 then some (.done (if gO l[i]! then (0:Int) else 8)) else some (.next (l,(l.length:Int),((i+1:Nat):Int),l)):=by
     unfold nC;simp only [e1,cond_true,aC l i (by omega),aB,CA,bC (show i<1000000000 by omega)]
    constructor
    · intro hc;rw [hb,if_neg hc];rfl
    · intro hc;rw [hb,if_pos (Classical.not_not.1 hc)];rfl) (by
    unfold nC
    have:decide ((l.length:Int)<(l.length:Int))=false:=by simp
    simp only [this,cond_false];exact T3 l (by omega))
   by_cases hp: ∀p∈l,gO p
   · rw [if_neg (Classical.not_not.2 hp)]
     refine (key.2 fun i hi=>?_).trans ?_
     · exact Classical.not_not.2 (hp _ (bB hi))
     · by_cases hs:hG l
       · simp [hs]
       · simp [hs]
   · rw [if_pos hp]
     refine key.1 ?_;obtain ⟨p,hp⟩:=Classical.not_forall.1 hp;obtain ⟨hm,h2⟩:=Classical.not_imp.1 hp;obtain ⟨i,hi,rfl⟩:=aY.1 hm;exact ⟨i,hi,h2⟩
theorem vQ {l:List Pt} (h:hG l) {i j:Nat} (hij:i<j) (hj:j<l.length):(l[i]!).1<(l[j]!).1:=by
 induction j with
 |zero=>omega
 |succ j ih=>
  have h1:=h j hj
  by_cases he:i=j
  · subst he;exact h1
  · have:=ih (by omega) (by omega);omega
theorem oV {l:List Pt} (h:hG l) {i j:Nat} (hi:i<l.length) (hj:j<l.length) (he:(l[i]!).1=(l[j]!).1):i=j:=by
 rcases Nat.lt_trichotomy i j with h1|h1|h1
 · have:=vQ h h1 hj;omega
 · exact h1
 · have:=vQ h h1 hi;omega
theorem JX (l:List Pt) (id:Int) (hl:l.length<=1000000):(∀k,k<l.length->(l[k]!).1=id->(∀j,j<k->(l[j]!).1≠id)->gN ⟨l⟩ id=some (k:Int))/\((∀k,k<l.length->(l[k]!).1≠id)->gN ⟨l⟩ id=some (-1)):=by
 unfold gN;refine lS (body:=tR) (fun i=>(id,(i:Int),l)) l.length (fun i=>(l[i]!).1=id) (fun i=>(i:Int)) (fun i hi=>?_) ?_
 · have e1:decide ((i:Int)<(l.length:Int))=true:=by simp;omega
   have hb:tR (id,(i:Int),l)=bif (l[i]!).1==id then some (.done (i:Int)) else some (.next (id,((i+1:Nat):Int),l)):=by
    unfold tR;simp only [aF,e1,cond_true,aC l i hi,aB,bC (show i<1000000000 by omega)]
   constructor
   · intro hc;rw [hb,gL hc];rfl
   · intro hc;rw [hb,fW hc];rfl
 · unfold tR
   have:decide ((l.length:Int)<(l.length:Int))=false:=by simp
   simp only [aF,this,cond_false]
theorem aAo {l:List Pt} (hs:hG l) (hl:l.length<=1000000) {k:Nat} (hk:k<l.length) {id:Int} (he:(l[k]!).1=id):gN ⟨l⟩ id=some (k:Int):=by
 refine (JX l id hl).1 k hk he fun j hj hc=>?_
 have:=vQ hs hj hk
 omega
theorem aJh {l:List Pt} (hl:l.length<=1000000) {id:Int} (h: ∀k,k<l.length->(l[k]!).1≠id):gN ⟨l⟩ id=some (-1):=(JX l id hl).2 h
theorem T4 (f:Nat->Int) (id:Int): ∀(n:Nat),(∀i j,i<j->j<n->f i<f j)-> ∃m,m<=n/\(∀i,i<m->f i<id)/\(∀i,m<=i->i<n->id<=f i)
 |0,_=>⟨0,Nat.le_refl _,fun i h=>by omega,fun i _ h=>by omega⟩
 |n+1,h=>by
  obtain ⟨m,h1,h2,h3⟩:=T4 f id n fun i j a b=>h i j a (by omega)
  by_cases hm:m=n
  · by_cases hf:f n<id
    · refine ⟨n+1,Nat.le_refl _,fun i hi=>?_,fun i a b=>by omega⟩
      by_cases he:i=n
      · subst he;exact hf
      · exact h2 i (by omega)
    · refine ⟨n,by omega,fun i hi=>h2 i (by omega),fun i a b=>?_⟩
      have:i=n:=by omega
      subst this;omega
  · refine ⟨m,by omega,h2,fun i a b=>?_⟩
    by_cases he:i=n
    · subst he
      have:=h m i (by omega) (by omega)
      have:=h3 m (Nat.le_refl _) (by omega)
      omega
    · exact h3 i a (by omega)
end Go.Proofs.YthljmpcakagceaaGreat
namespace Go.Proofs.YthljmpcakagceaaGreat
open Go.Vm Classical
theorem gG {α:Type} [Inhabited α] {l:List α}:l.Nodup↔ ∀i j,i<j->j<l.length->l[i]!≠l[j]!:=by
 unfold List.Nodup;rw [List.pairwise_iff_getElem];constructor
 · intro h i j hij hj
   rw [getElem!_pos l i (by omega),getElem!_pos l j hj]
   exact h i j (by omega) hj hij
 · intro h i j hi hj hij
   have:=h i j hij hj
   rwa [getElem!_pos l i hi,getElem!_pos l j hj] at this
theorem cL {α:Type} [Inhabited α] {l:List α} {k:Nat} {x:α}:x∈l.take k↔ ∃i,i<k/\i<l.length/\l[i]! =x:=by
 rw [aY];constructor
 · rintro ⟨i,hi,rfl⟩
   rw [List.length_take] at hi;exact ⟨i,by omega,by omega,(lH (by omega)).symm⟩
 · rintro ⟨i,h1,h2,rfl⟩
   exact ⟨i,by rw [List.length_take];omega,lH h1⟩
theorem jL {α:Type} [Inhabited α] {l:List α} {k:Nat} (h:k<l.length):l.take (k+1)=l.take k++[l[k]!]:=by
 rw [List.take_add_one,List.getElem?_eq_getElem h,getElem!_pos l k h];rfl
def fS (l:List Bool):List Int->List Bool
 | []=>l
 |x::r=>fS (bZ l x true) r
theorem nU: ∀(r:List Int) (l:List Bool),(fS l r).length=l.length
 | [],_=>rfl
 |x::r,l=>by rw [fS,nU r,zR]
theorem F6: ∀(r:List Int) (l:List Bool) (x:Int),fS l (r++[x])=bZ (fS l r) x true
 | [],_,_=>rfl
 |y::r,l,x=>by
  show fS (bZ l y true) (r++[x])=_;rw [F6 r];rfl
theorem pL : ∀ (r : List Int) (l : List Bool) (i : Nat), (∀ x ∈ r, 0 <= x) -> i < l.length -> (fS l r)[i]! = (l[i]! || decide ((i : Int) ∈ r))
  | [], l, i, _, _ => by simp [fS]
  | x :: r, l, i, h, hi => by
    rw [fS, pL r _ i (fun y hy => h y (by simp [hy])) (by rw [zR]; exact hi)]
    obtain ⟨k, rfl⟩ := Int.eq_ofNat_of_zero_le (h x (by simp))
    rw [mH, bG]
    by_cases e : i = k
    · subst e; rw [if_pos ⟨rfl, hi⟩]; simp
    · rw [if_neg (fun h => e h.1)]
      have : ((i : Int) ∈ (k : Int) :: r) ↔ (i : Int) ∈ r := by
        rw [List.mem_cons]
        constructor
        · rintro (h | h)
          · omega
          · exact h
        · exact .inr
      simp only [this]
theorem M0 (l:List Bool) (h:l.length<=1000000):eL l false=some (decide (false∈l)):=by
 unfold eL qC;have key:=lS (body:=gY) (fun i=>(l,false,(l.length:Int),(i:Int))) l.length (fun i=>l[i]! =false) (fun i=>(i:Int)) (e:= -1) (fun i hi=>by
  have e1:decide ((i:Int)<(l.length:Int))=true:=by simp;omega
  have hb:gY (l,false,(l.length:Int),(i:Int))=bif false==l[i]! then some (.done (i:Int)) else some (.next (l,false,(l.length:Int),((i+1:Nat):Int))):=by
   unfold gY;simp only [e1,cond_true,aC l i hi,aB,bC (show i<1000000000 by omega)]
  constructor
  · intro hc;rw [hb,hc];rfl
  · intro hc
    have:l[i]! =true:=by simpa using hc
    rw [hb,this];rfl) (by
  unfold gY
  have:decide ((l.length:Int)<(l.length:Int))=false:=by simp
  simp only [this,cond_false])
 rw [aF]
 by_cases hx:false∈l
 · obtain ⟨i,hi,he⟩:=aY.1 hx
   obtain ⟨k,h1,h2,h3⟩:=HD (c:=fun i=>l[i]! =false) ⟨i,hi,he⟩
   have:=key.1 k h1 h2 h3
   rw [show ((0:Nat):Int)=0 from rfl] at this;rw [this];have e:decide ((0:Int)<=(k:Int))=true:=by simp
   simp [hx]
 · have:=key.2 fun i hi he=>hx (aY.2 ⟨i,hi,he⟩)
   rw [show ((0:Nat):Int)=0 from rfl] at this;rw [this];simp [hx]
structure fF (s:aR):Prop where
 n1:1<=s.uses.length
 n2:s.uses.length<=200
 ul:s.used.length=s.uses.length
 fr: ∀x∈s.free,0<=x/\x<s.uses.length
 fd:s.free.Nodup
 uf: ∀i,i<s.uses.length->(s.used[i]! =true↔(i:Int)∉s.free)
 us: ∀i,i<s.uses.length->0<=s.uses[i]!/\s.uses[i]!<=1000000/\(s.used[i]! =true->1<=s.uses[i]!)
theorem WL (uses:List Int) (used:List Bool) (fr:List Int) (h1:uses.length<=200) (h2:used.length=uses.length):
 aH gU (uses,(uses.length:Int),0,uses,used,fr)=some (.done (if∀i,i<uses.length->0<=uses[i]!/\uses[i]!<=1000000/\(used[i]! =true->1<=uses[i]!) then 0 else 8)):=by
 have key:=dC (body:=gU) (fun i=>(uses,(uses.length:Int),(i:Int),uses,used,fr)) uses.length (fun i=> ¬(0<=uses[i]!/\uses[i]!<=1000000/\(used[i]! =true->1<=uses[i]!))) (r:= .done 8) (e:= .done 0) (fun i hi=>by
  have e1:decide ((i:Int)<(uses.length:Int))=true:=by simp;omega
  have hb:gU (uses,(uses.length:Int),(i:Int),uses,used,fr)=bif decide (uses[i]!<0) then some (.done (.done 8)) else bif decide (1000000<uses[i]!) then some (.done (.done 8)) else bif uses[i]! ==0 then (bif used[i]! then some (.done (.done 8)) else some (.next (uses,(uses.length:Int),((i+1:Nat):Int),uses,used,fr))) else some (.next (uses,(uses.length:Int),((i+1:Nat):Int),uses,used,fr)):=by
   unfold gU;simp only [e1,cond_true,aC uses i hi,aC used i (by omega),aB,bC (show i<1000000000 by omega)]
  rw [hb];generalize uses[i]! =u at*
  by_cases a1:u<0
  · simp [a1];omega
  · by_cases a2:1000000<u
    · simp [a1,a2];omega
    · by_cases a3:u=0
      · subst a3
        cases used[i]!<;>simp
      · have a4:1<=u:=by omega
        have a5:0<=u:=by omega
        have a6:u<=1000000:=by omega
        simp [a1,a2,fW a3,a4,a5,a6]) (by
  unfold gU
  have:decide ((uses.length:Int)<(uses.length:Int))=false:=by simp
  simp only [this,cond_false])
 by_cases hc: ∀i,i<uses.length->0<=uses[i]!/\uses[i]!<=1000000/\(used[i]! =true->1<=uses[i]!)
 · rw [if_pos hc]
   exact key.2 fun i hi=>Classical.not_not.2 (hc i hi)
 · rw [if_neg hc]
   simp only [Classical.not_forall] at hc;obtain ⟨i,hi,hx⟩:=hc;exact key.1 ⟨i,hi,by simpa only [Classical.not_forall] using hx⟩
theorem yU (s:aR) (hf:s.free.length<=1000000):rL s=some (if fF s then 0 else 8):=by
 obtain ⟨uses,used,fr⟩:=s;dsimp only at hf;unfold rL;simp only [aF]
 by_cases a1:uses.length<1
 · have e:decide ((uses.length:Int)<1)=true:=by simp;omega
   rw [e,if_neg (fun h=>by have:=h.n1;dsimp only at this;omega)];rfl
 have e1:decide ((uses.length:Int)<1)=false:=by simp;omega
 by_cases a2:200<uses.length
 · have e:decide (200<(uses.length:Int))=true:=by simp;omega
   rw [e1,e,if_neg (fun h=>by have:=h.n2;dsimp only at this;omega)];rfl
 have e2:decide (200<(uses.length:Int))=false:=by simp;omega
 by_cases a3:used.length=uses.length
 case neg=>
  have e:((used.length:Int) !=(uses.length:Int))=true:=by simp;omega
  rw [e1,e2,e,if_neg (fun h=>a3 h.ul)];rfl
 have e3:((used.length:Int) !=(uses.length:Int))=false:=by simp;omega
 simp only [e1,e2,e3,cond_false,bH (show used.length<=1048576 by omega),aB]
 have inner:=WL uses used fr (by omega) a3
 have key:=dC (body:=sK used) (fun k=>(fr,(fr.length:Int),(k:Int),uses,used,fr,(uses.length:Int),fS used (fr.take k))) fr.length
  (fun k=>fr[k]!<0\/(uses.length:Int)<=fr[k]!\/(fS used (fr.take k))[(fr[k]!).toNat]! =true) (r:=8)
  (e:=if false∈fS used fr then 8 else if∀i,i<uses.length->0<=uses[i]!/\uses[i]!<=1000000/\(used[i]! =true->1<=uses[i]!) then 0 else 8) (fun k hk=>by
   have f1:decide ((k:Int)<(fr.length:Int))=true:=by simp;omega
   have f2:((fS used (fr.take k)).length==used.length)=true:=by rw [nU];simp
   have f3:decide ((0:Int)<=(k:Int))=true:=by simp
   have f4: ∀x:Int,((bZ (fS used (fr.take k)) x true).length==(fS used (fr.take k)).length)=true:=by intro x;rw [zR];simp
   have f5:fS used (fr.take (k+1))=bZ (fS used (fr.take k)) fr[k]! true:=by rw [jL hk,F6]
   unfold sK;simp only [f1,f2,f3,f4,cond_true,beq_self_eq_true,aC fr k hk,aB,bC (show k<1000000000 by omega),f5]
   clear f5;generalize fr[k]! =x
   by_cases b1:x<0
   · simp [b1]
   · by_cases b2:(uses.length:Int)<=x
     · simp [b1,b2]
     · simp only [b1,b2,decide_false,cond_false,false_or]
       rw [dM (l:=fS used (fr.take k)) (i:=x) (by omega) (by rw [nU];omega)]
       simp only [aB];cases (fS used (fr.take k))[x.toNat]!<;>simp) (by
   have f1:decide ((fr.length:Int)<(fr.length:Int))=false:=by simp
   unfold sK;simp only [f1,cond_false,List.take_length];rw [M0 _ (by rw [nU];omega)]
   have f2:((fS used fr).length==used.length)=true:=by rw [nU];simp
   simp only [f2,cond_true,aB,aF,inner]
   by_cases hx:false∈fS used fr
   · simp [hx]
   · simp [hx])
 have h0:fS used (fr.take 0)=used:=rfl;rw [show ((0:Nat):Int)=0 from rfl,h0] at key
 by_cases bad: ∃k,k<fr.length/\(fr[k]!<0\/(uses.length:Int)<=fr[k]!\/(fS used (fr.take k))[(fr[k]!).toNat]! =true)
 · rw [key.1 bad,if_neg]
   intro ok;obtain ⟨k,hk,hb⟩:=bad;have hr:=ok.fr fr[k]! (bB hk);dsimp only at hr;rcases hb with hb|hb|hb
   · omega
   · omega
   · rw [pL _ _ _ (fun x hx=>(ok.fr x (List.mem_of_mem_take hx)).1) (by omega)] at hb
     have hi:((fr[k]!).toNat:Int)=fr[k]!:=by omega
     rw [hi,Bool.or_eq_true] at hb;rcases hb with hb|hb
     · have:=(ok.uf (fr[k]!).toNat (by show _<uses.length;omega)).1 hb
       rw [hi] at this;exact this (bB hk)
     · have hm:fr[k]!∈fr.take k:=by simpa using hb
       obtain ⟨j,h1,h2,h3⟩:=cL.1 hm;exact gG.1 ok.fd j k h1 hk h3
 · have good: ∀k,k<fr.length->0<=fr[k]!/\fr[k]!<uses.length/\(fS used (fr.take k))[(fr[k]!).toNat]! =false:=by
    intro k hk;refine ⟨?_,?_,?_⟩
    · exact Int.not_lt.1 fun h=>bad ⟨k,hk,.inl h⟩
    · exact Int.not_le.1 fun h=>bad ⟨k,hk,.inr (.inl h)⟩
    · exact Bool.not_eq_true _▸fun h=>bad ⟨k,hk,.inr (.inr h)⟩
   rw [key.2 fun k hk hb=>bad ⟨k,hk,hb⟩]
   have rng: ∀x∈fr,0<=x/\x<(uses.length:Int):=by
    intro x hx;obtain ⟨k,hk,rfl⟩:=aY.1 hx;exact ⟨(good k hk).1,(good k hk).2.1⟩
   have g2: ∀k,k<fr.length->used[(fr[k]!).toNat]! =false/\fr[k]!∉fr.take k:=by
    intro k hk;obtain ⟨c1,c2,c3⟩:=good k hk;rw [pL _ _ _ (fun x hx=>(rng x (List.mem_of_mem_take hx)).1) (by omega),show ((fr[k]!).toNat:Int)=fr[k]! by omega,Bool.or_eq_false_iff] at c3
    exact ⟨c3.1,by simpa using c3.2⟩
   have nd:fr.Nodup:=gG.2 fun i j hij hj he=>(g2 j hj).2 (cL.2 ⟨i,hij,by omega,he⟩)
   by_cases hx:false∈fS used fr
   · rw [if_pos hx,if_neg]
     intro ok;obtain ⟨i,hi,he⟩:=aY.1 hx;rw [nU] at hi;rw [pL _ _ _ (fun x hx=>(rng x hx).1) hi,Bool.or_eq_false_iff] at he
     have h3:(i:Int)∉fr:=by simpa using he.2
     have:=(ok.uf i (by show _<uses.length;omega)).2 h3
     rw [show used[i]! =false from he.1] at this;cases this
   · rw [if_neg hx]
     by_cases hu: ∀i,i<uses.length->0<=uses[i]!/\uses[i]!<=1000000/\(used[i]! =true->1<=uses[i]!)
     · rw [if_pos hu,if_pos]
       refine ⟨by show 1<=uses.length;omega,by show uses.length<=200;omega,a3,rng,nd,fun i hi=>?_,hu⟩
       dsimp only at hi ⊢;constructor
       · intro h1 h2
         obtain ⟨k,hk,he⟩:=aY.1 h2
         have:=(g2 k hk).1
         rw [he,show ((i:Int)).toNat=i by omega,h1] at this
         cases this
       · intro h1
         refine Classical.byContradiction fun h2=>hx ?_
         refine aY.2 ⟨i,by rw [nU];omega,?_⟩
         rw [pL _ _ _ (fun x hx=>(rng x hx).1) (by omega)]
         have:used[i]! =false:=by simpa using h2
         rw [this];simpa using h1
     · rw [if_neg hu,if_neg]
       intro ok;exact hu ok.us
end Go.Proofs.YthljmpcakagceaaGreat
namespace Go.Proofs.YthljmpcakagceaaGreat
open Go.Vm Classical
theorem fF.fl {s:aR} (ok:fF s):s.free.length<=s.uses.length:=by
 have h:=WK s.uses.length (s.free.map Int.toNat) (by
  rw [gG];intro i j hij hj he;rw [List.length_map] at hj;have e: ∀k,k<s.free.length->(s.free.map Int.toNat)[k]! =(s.free[k]!).toNat:=by
   intro k hk;rw [getElem!_pos _ k (by simpa using hk),List.getElem_map,getElem!_pos s.free k hk]
  rw [e i (by omega),e j hj] at he
  have h1:=(ok.fr _ (bB (show i<s.free.length by omega))).1
  have h2:=(ok.fr _ (bB hj)).1;exact gG.1 ok.fd i j hij hj (by omega)) (by
  intro x hx;obtain ⟨y,hy,rfl⟩:=List.mem_map.1 hx
  have:=ok.fr y hy
  omega)
 rwa [List.length_map] at h
def xX (s:aR) (h:Int×Int):Prop:=0<=h.1/\h.1<s.uses.length/\s.used[h.1.toNat]! =true/\s.uses[h.1.toNat]! =h.2
def fV (s:aR) (h:Int×Int):aR:=⟨s.uses,s.used.set h.1.toNat false,s.free++[h.1]⟩
def cZ (s:aR):Nat:=(s.free[s.free.length-1]!).toNat
def CB (s:aR):Prop:=0<s.free.length/\s.uses[cZ s]!<1000000
def hH (s:aR):aR:=⟨s.uses.set (cZ s) (s.uses[cZ s]!+1),s.used.set (cZ s) true,s.free.take (s.free.length-1)⟩
def mB (s:aR):Int×Int:=((cZ s:Int),s.uses[cZ s]!+1)
theorem JY {s:aR} (ok:fF s) (h:Int×Int):C9 s h=some (decide (xX s h),0):=by
 have hl:=ok.fl;have hn:=ok.n2;have hu:=ok.ul;unfold C9 xX;rw [yU s (by omega),if_pos ok]
 simp only [aB,show ((0:Int) !=0)=false from rfl,cond_false,aF]
 by_cases a1:0<=h.1
 · by_cases a2:h.1<s.uses.length
   · have e2:decide (h.1<(s.used.length:Int))=true:=by simp;omega
     simp only [a1,a2,e2,decide_true,cond_true,dM (l:=s.used) a1 (by omega),dM (l:=s.uses) a1 a2,aB,true_and]
     generalize s.uses[h.1.toNat]! =u;cases s.used[h.1.toNat]!<;>simp [YS]
   · have e2:decide (h.1<(s.used.length:Int))=false:=by simp;omega
     simp [a1,a2,e2]
 · simp [a1]
theorem Q1 {s:aR} (ok:fF s) {h:Int×Int} (lv:xX s h):EB s h=some (fV s h,0):=by
 have hl:=ok.fl;have hn:=ok.n2;have hu:=ok.ul;unfold EB;rw [JY ok,decide_eq_true lv];unfold uL;obtain ⟨l1,l2,l3,l4⟩:=lv;have e1:bZ s.used h.1 false=s.used.set h.1.toNat false:=rfl
 simp only [aB,show ((0:Int) !=0)=false from rfl,cond_false,Bool.not_true,bH (show s.uses.length<=1048576 by omega),bH (show s.used.length<=1048576 by omega),bH (show s.free.length<=1048576 by omega),
  dN (show s.free.length+[h.1].length<=1048576 by simp;omega),dM (l:=s.used) l1 (by omega),e1,fV]
theorem yV {s:aR} (ok:fF s):wL s=some s:=by
 have hl:=ok.fl;have hn:=ok.n2;have hu:=ok.ul;unfold wL;simp only [aB,bH (show s.uses.length<=1048576 by omega),bH (show s.used.length<=1048576 by omega),bH (show s.free.length<=1048576 by omega)]
theorem M1 {s:aR} (ok:fF s) {h:Int×Int} (lv:xX s h):uB s h=some (fV s h):=by
 have hl:=ok.fl;have hn:=ok.n2;have hu:=ok.ul;obtain ⟨l1,l2,l3,l4⟩:=lv;unfold uB;rw [yV ok];have e1:bZ s.used h.1 false=s.used.set h.1.toNat false:=rfl;simp only [aB,dN (show s.free.length+[h.1].length<=1048576 by simp;omega),dM (l:=s.used) l1 (by omega),e1,fV]
theorem aCh {s:aR} (ok:fF s) {h:Int×Int} (lv:xX s h):fF (fV s h):=by
 have hl:=ok.fl;have hn:=ok.n2;have hu:=ok.ul;obtain ⟨l1,l2,l3,l4⟩:=lv;have nf:h.1∉s.free:=by
  have:=(ok.uf h.1.toNat (by omega)).1 l3
  rwa [show (h.1.toNat:Int)=h.1 by omega] at this
 refine ⟨ok.n1,ok.n2,?_,?_,?_,?_,?_⟩
 · show (s.used.set _ _).length=_;rw [List.length_set];exact hu
 · intro x hx
   rcases List.mem_append.1 hx with hx|hx
   · exact ok.fr x hx
   · rw [List.mem_singleton] at hx;subst hx;exact ⟨l1,l2⟩
 · show (s.free++[h.1]).Nodup
   rw [List.nodup_append];refine ⟨ok.fd,by simp,?_⟩
   intro x hx y hy he;rw [List.mem_singleton] at hy;subst hy;subst he;exact nf hx
 · intro i hi
   change i<s.uses.length at hi;show (s.used.set h.1.toNat false)[i]! =true↔(i:Int)∉s.free++[h.1];rw [bG,List.mem_append,List.mem_singleton]
   by_cases e:i=h.1.toNat
   · rw [if_pos ⟨e,by omega⟩]
     have:(i:Int)=h.1:=by omega
     simp [this]
   · rw [if_neg (fun k=>e k.1),ok.uf i hi]
     have: ¬(i:Int)=h.1:=by omega
     simp [this]
 · intro i hi
   change i<s.uses.length at hi;obtain ⟨u1,u2,u3⟩:=ok.us i hi;refine ⟨u1,u2,?_⟩;show (s.used.set h.1.toNat false)[i]! =true->_;rw [bG];split
   · intro h;cases h
   · exact u3
theorem EI {s:aR} (ok:fF s) (h:0<s.free.length):cZ s<s.uses.length/\(cZ s:Int)=s.free[s.free.length-1]!/\(cZ s:Int)∈s.free:=by
 have hm:=bB (l:=s.free) (i:=s.free.length-1) (by omega)
 have:=ok.fr _ hm
 have e:(cZ s:Int)=s.free[s.free.length-1]!:=by unfold cZ;omega
 refine ⟨by omega,e,by rw [e];exact hm⟩
theorem mQ {α:Type} (l:List α) (n:Nat) (h:n<=l.length):iZ l 0 (n:Int)=some (l.take n):=by
 unfold iZ;rw [if_pos ⟨by omega,by omega,by omega⟩]
 simp
theorem HI {s:aR} (ok:fF s):EC s=some (if CB s then (hH s,mB s,0) else (⟨[],[],[]⟩,(0,0),18)):=by
 have hl:=ok.fl;have hn:=ok.n2;have hu:=ok.ul;unfold EC CB;rw [yU s (by omega),if_pos ok]
 simp only [aB,show ((0:Int) !=0)=false from rfl,cond_false,aF]
 by_cases a1:0<s.free.length
 · obtain ⟨n1,n2,n3⟩:=EI ok a1
   have e1:((s.free.length:Int)==0)=false:=fW (by omega)
   have e2:aA .i64 ((s.free.length:Int) -1)=((s.free.length-1:Nat):Int):=BK (by omega) (by omega)
   unfold wI;simp only [e1,cond_false,aF,e2,mQ s.free (s.free.length-1) (by omega),aB,bH (show (s.free.take (s.free.length-1)).length<=1048576 by rw [List.length_take];omega),
    aC s.free (s.free.length-1) (by omega),<- n2,aC s.uses (cZ s) n1]
   obtain ⟨u1,u2,u3⟩:=ok.us (cZ s) n1
   by_cases a2:s.uses[cZ s]! =1000000
   · have e3:(s.uses[cZ s]! ==1000000)=true:=by simpa using a2
     rw [e3,if_neg (by omega)];rfl
   · have e3:(s.uses[cZ s]! ==1000000)=false:=by simpa using a2
     have e4:aA .i64 (s.uses[cZ s]!+1)=s.uses[cZ s]!+1:=by rw [wi];omega
     rw [e3,if_pos (by omega)]
     simp only [cond_false,bH (show s.uses.length<=1048576 by omega),bH (show s.used.length<=1048576 by omega),aB,aC s.used (cZ s) (by omega),aC s.uses (cZ s) n1,e4,mH,
      aC (s.uses.set (cZ s) (s.uses[cZ s]!+1)) (cZ s) (by rw [List.length_set];exact n1),bG,n1,and_self,if_true,hH,mB]
 · have e1:((s.free.length:Int)==0)=true:=gL (by omega)
   rw [e1,if_neg (fun h=>a1 h.1)];rfl
theorem sS {s:aR} (ok:fF s):iK s=some (decide (CB s)):=by
 have hl:=ok.fl;have hn:=ok.n2;have hu:=ok.ul;unfold iK CB;simp only [aF]
 by_cases a1:0<s.free.length
 · obtain ⟨n1,n2,n3⟩:=EI ok a1
   have e1:decide ((0:Int)<(s.free.length:Int))=true:=by simp;omega
   have e2:aA .i64 ((s.free.length:Int) -1)=((s.free.length-1:Nat):Int):=BK (by omega) (by omega)
   simp only [e1,e2,cond_true,aC s.free (s.free.length-1) (by omega),aB,<- n2,aC s.uses (cZ s) n1,a1,true_and]
 · have e1:decide ((0:Int)<(s.free.length:Int))=false:=decide_eq_false (by omega)
   rw [e1];simp [a1]
theorem M2 {s:aR} (ok:fF s) (h:CB s):DH s=some (hH s,mB s):=by
 have hl:=ok.fl;have hn:=ok.n2;have hu:=ok.ul;obtain ⟨a1,a2⟩:=h;obtain ⟨n1,n2,n3⟩:=EI ok a1;obtain ⟨u1,u2,u3⟩:=ok.us (cZ s) n1;unfold DH;rw [yV ok];have e2:aA .i64 ((s.free.length:Int) -1)=((s.free.length-1:Nat):Int):=BK (by omega) (by omega)
 have e4:aA .i64 (s.uses[cZ s]!+1)=s.uses[cZ s]!+1:=by rw [wi];omega
 simp only [aB,aF,e2,aC s.free (s.free.length-1) (by omega),mQ s.free (s.free.length-1) (by omega),<- n2,aC s.uses (cZ s) n1,aC s.used (cZ s) (by omega),e4,mH,
  aC (s.uses.set (cZ s) (s.uses[cZ s]!+1)) (cZ s) (by rw [List.length_set];exact n1),bG,n1,and_self,if_true,hH,mB,Int.toNat_natCast]
theorem aCi {s:aR} (ok:fF s) (h:CB s):fF (hH s):=by
 have hl:=ok.fl;have hn:=ok.n2;have hu:=ok.ul;obtain ⟨a1,a2⟩:=h;obtain ⟨n1,n2,n3⟩:=EI ok a1;have mt: ∀x:Int,x∈s.free.take (s.free.length-1)↔(x∈s.free/\x≠(cZ s:Int)):=by
  intro x;rw [cL];constructor
  · rintro ⟨i,h1,h2,rfl⟩
    refine ⟨bB h2,?_⟩;rw [n2];exact gG.1 ok.fd i (s.free.length-1) h1 (by omega)
  · rintro ⟨h1,h2⟩
    obtain ⟨i,hi,rfl⟩:=aY.1 h1;refine ⟨i,?_,hi,rfl⟩;refine Classical.byContradiction fun hc=>h2 ?_
    rw [n2,show i=s.free.length-1 by omega]
 refine ⟨?_,?_,?_,?_,?_,?_,?_⟩
 · show 1<=(s.uses.set _ _).length;rw [List.length_set];exact ok.n1
 · show (s.uses.set _ _).length<=200;rw [List.length_set];exact ok.n2
 · show (s.used.set _ _).length=(s.uses.set _ _).length;rw [List.length_set,List.length_set];exact hu
 · intro x hx
   show 0<=x/\x<((s.uses.set _ _).length:Int);rw [List.length_set];exact ok.fr x ((mt x).1 hx).1
 · exact ok.fd.sublist (List.take_sublist _ _)
 · intro i hi
   change i<(s.uses.set _ _).length at hi;rw [List.length_set] at hi;show (s.used.set (cZ s) true)[i]! =true↔(i:Int)∉s.free.take (s.free.length-1);rw [bG,mt]
   by_cases e:i=cZ s
   · rw [if_pos ⟨e,by omega⟩]
     simp [e]
   · rw [if_neg (fun k=>e k.1),ok.uf i hi]
     have:(i:Int)≠(cZ s:Int):=by omega
     simp [this]
 · intro i hi
   change i<(s.uses.set _ _).length at hi;rw [List.length_set] at hi;obtain ⟨u1,u2,u3⟩:=ok.us i hi;show 0<=(s.uses.set (cZ s) (s.uses[cZ s]!+1))[i]!/\(s.uses.set (cZ s) (s.uses[cZ s]!+1))[i]!<=1000000/\((s.used.set (cZ s) true)[i]! =true->1<=(s.uses.set (cZ s) (s.uses[cZ s]!+1))[i]!);rw [bG,bG]
   by_cases e:i=cZ s
   · subst e
     rw [if_pos ⟨rfl,n1⟩];refine ⟨by omega,by omega,fun _=>by omega⟩
   · rw [if_neg (fun k=>e k.1),if_neg (fun k=>e k.1)]
     exact ⟨u1,u2,u3⟩
end Go.Proofs.YthljmpcakagceaaGreat
namespace Go.Proofs.YthljmpcakagceaaGreat
open Go.Vm Classical
abbrev Ev:=Int×Int×Int×Int×Int
abbrev Ev.at (x:Ev):Int×Int:=(x.1,x.2.1)
abbrev Ev.num (x:Ev):Int:=x.2.2.1
abbrev Ev.ix (x:Ev):Int:=x.2.2.2.1
abbrev Ev.n (x:Ev):Nat:=x.2.2.2.1.toNat
theorem aRx {x:Ev} {k:Nat} (h:x.ix<(k:Int)) (h0:0<=x.ix):x.n<k:=by
 show x.ix.toNat<k;omega
theorem aRy {x y:Ev} (h0:0<=x.ix) (h1:0<=y.ix) (h:x.ix≠y.ix):x.n≠y.n:=by
 show x.ix.toNat≠y.ix.toNat
 omega
def dO (x y:Ev):Prop:=mR (x.1,x.2.1) (y.1,y.2.1)<0\/(mR (x.1,x.2.1) (y.1,y.2.1)=0/\x.2.2.1<y.2.2.1)
theorem vI {a b:Int×Int}:mR a b<0↔a.1*b.2<b.1*a.2:=by
 unfold mR;rcases eB (a.1*b.2) (b.1*a.2) with ⟨h,e⟩|⟨h,e⟩|⟨h,e⟩<;>rw [e]<;>constructor<;>intro<;>omega
theorem YT {a b:Int×Int}:mR a b=0↔a.1*b.2=b.1*a.2:=by
 unfold mR;rcases eB (a.1*b.2) (b.1*a.2) with ⟨h,e⟩|⟨h,e⟩|⟨h,e⟩<;>rw [e]<;>constructor<;>intro<;>omega
theorem oW {x y:Ev} (h:dO x y): ¬dO y x:=by
 unfold dO at*;rw [vI,YT] at*;dsimp only at*;rintro (k|k)<;>rcases h with h|h<;>omega
theorem WM {a1 a2 b1 b2 c1 c2:Int} (ha:1<=a2) (hb:1<=b2) (hc:1<=c2) (h1:a1*b2<=b1*a2) (h2:b1*c2<=c1*b2):a1*c2<=c1*a2:=by
 have e1:a1*b2*c2<=b1*a2*c2:=Int.mul_le_mul_of_nonneg_right h1 (by omega)
 have e2:b1*c2*a2<=c1*b2*a2:=Int.mul_le_mul_of_nonneg_right h2 (by omega)
 have e3:(a1*c2)*b2<=(c1*a2)*b2:=by
  have r1:(a1*c2)*b2=a1*b2*c2:=by grind
  have r2:b1*a2*c2=b1*c2*a2:=by grind
  have r3:c1*b2*a2=(c1*a2)*b2:=by grind
  omega
 exact Int.le_of_mul_le_mul_right e3 (by omega)
theorem yW {a1 a2 b1 b2 c1 c2:Int} (ha:1<=a2) (hb:1<=b2) (hc:1<=c2) (h1:a1*b2<b1*a2) (h2:b1*c2<=c1*b2):a1*c2<c1*a2:=by
 have e1:a1*b2*c2<b1*a2*c2:=Int.mul_lt_mul_of_pos_right h1 (by omega)
 have e2:b1*c2*a2<=c1*b2*a2:=Int.mul_le_mul_of_nonneg_right h2 (by omega)
 have e3:(a1*c2)*b2<(c1*a2)*b2:=by
  have r1:(a1*c2)*b2=a1*b2*c2:=by grind
  have r2:b1*a2*c2=b1*c2*a2:=by grind
  have r3:c1*b2*a2=(c1*a2)*b2:=by grind
  omega
 exact Int.lt_of_mul_lt_mul_right e3 (by omega)
theorem M3 {a1 a2 b1 b2 c1 c2:Int} (ha:1<=a2) (hb:1<=b2) (hc:1<=c2) (h1:a1*b2<=b1*a2) (h2:b1*c2<c1*b2):a1*c2<c1*a2:=by
 have e1:a1*b2*c2<=b1*a2*c2:=Int.mul_le_mul_of_nonneg_right h1 (by omega)
 have e2:b1*c2*a2<c1*b2*a2:=Int.mul_lt_mul_of_pos_right h2 (by omega)
 have e3:(a1*c2)*b2<(c1*a2)*b2:=by
  have r1:(a1*c2)*b2=a1*b2*c2:=by grind
  have r2:b1*a2*c2=b1*c2*a2:=by grind
  have r3:c1*b2*a2=(c1*a2)*b2:=by grind
  omega
 exact Int.lt_of_mul_lt_mul_right e3 (by omega)
theorem AA {x y z:Ev} (hx:1<=x.2.1) (hy:1<=y.2.1) (hz:1<=z.2.1) (h1: ¬dO y x) (h2: ¬dO z y): ¬dO z x:=by
 unfold dO at*;rw [vI,YT] at*;dsimp only at*;have t1:= @WM x.1 x.2.1 y.1 y.2.1 z.1 z.2.1 hx hy hz;have t2:= @yW x.1 x.2.1 y.1 y.2.1 z.1 z.2.1 hx hy hz;have t3:= @M3 x.1 x.2.1 y.1 y.2.1 z.1 z.2.1 hx hy hz;generalize x.1*y.2.1=p at*;generalize y.1*x.2.1=q at*;generalize y.1*z.2.1=r at*;generalize z.1*y.2.1=s at*;generalize x.1*z.2.1=u at*
 generalize z.1*x.2.1=v at*;have a1:p<=q:=by omega
 have a2:r<=s:=by omega
 have a3:=t1 a1 a2;rintro (k|k)
 · omega
 · by_cases b1:p<q
   · have:=t2 b1 a2;omega
   · by_cases b2:r<s
     · have:=t3 a1 b2;omega
     · omega
structure F7 (n:Nat) (x:Ev) (M:Ev->Prop) (H:List Ev) (W:List Int) (i:Nat):Prop where
 lt:i<n
 hn:n<=H.length
 ix: ∀w,w<n->w≠i->0<=(H[w]!).ix/\(H[w]!).ix<W.length/\W[(H[w]!).n]! =(w:Int)/\(H[w]!).ix≠x.ix
 x0:0<=x.ix
 x1:x.ix<W.length
 mem: ∀e,(∃w,w<n/\w≠i/\H[w]! =e)↔M e
theorem F7.move {n:Nat} {x:Ev} {M:Ev->Prop} {H:List Ev} {W:List Int} {i j:Nat} (h:F7 n x M H W i) (hj:j<n) (hij:j≠i):F7 n x M (H.set i H[j]!) (W.set (H[j]!).n (i:Int)) j:=by
 have hn:=h.hn;have hi:=h.lt;obtain ⟨j1,j2,j3,j4⟩:=h.ix j hj hij;have cell: ∀w,(H.set i H[j]!)[w]! =if w=i then H[j]! else H[w]!:=by
  intro w;rw [bG]
  by_cases e:w=i
  · rw [if_pos ⟨e,by omega⟩,if_pos e]
  · rw [if_neg (fun k=>e k.1),if_neg e]
 refine ⟨hj,by rw [List.length_set];exact hn,?_,h.x0,by rw [List.length_set];exact h.x1,?_⟩
 · intro w hw hwj
   rw [cell,List.length_set]
   by_cases e:w=i
   · rw [if_pos e,bG,if_pos ⟨rfl,aRx j2 j1⟩]
     exact ⟨j1,j2,by rw [e],j4⟩
   · rw [if_neg e,bG]
     obtain ⟨k1,k2,k3,k4⟩:=h.ix w hw e;refine ⟨k1,k2,?_,k4⟩;rw [if_neg,k3];rintro ⟨c,_⟩;rw [c,j3] at k3;omega
 · intro e
   rw [<- h.mem e];constructor
   · rintro ⟨w,hw,hwj,he⟩
     rw [cell] at he
     by_cases c:w=i
     · rw [if_pos c] at he;exact ⟨j,hj,hij,he⟩
     · rw [if_neg c] at he;exact ⟨w,hw,c,he⟩
   · rintro ⟨w,hw,hwi,he⟩
     by_cases c:w=j
     · refine ⟨i,hi,fun h=>hij h.symm,?_⟩
       rw [cell,if_pos rfl,<- c];exact he
     · exact ⟨w,hw,c,by rw [cell,if_neg hwi];exact he⟩
theorem F7.fill {n:Nat} {x:Ev} {M:Ev->Prop} {H:List Ev} {W:List Int} {i:Nat} (h:F7 n x M H W i):
 (∀w,w<n->0<=((H.set i x)[w]!).ix/\((H.set i x)[w]!).ix<W.length/\(W.set x.n (i:Int))[((H.set i x)[w]!).n]! =(w:Int))/\
  (∀e,(∃w,w<n/\(H.set i x)[w]! =e)↔(e=x\/M e)):=by
 have hn:=h.hn;have hi:=h.lt;have x0:=h.x0;have x1:=h.x1;have cell: ∀w,(H.set i x)[w]! =if w=i then x else H[w]!:=by
  intro w;rw [bG]
  by_cases e:w=i
  · rw [if_pos ⟨e,by omega⟩,if_pos e]
  · rw [if_neg (fun k=>e k.1),if_neg e]
 constructor
 · intro w hw
   rw [cell]
   by_cases e:w=i
   · rw [if_pos e,bG,if_pos ⟨rfl,aRx x1 x0⟩]
     exact ⟨x0,x1,by rw [e]⟩
   · rw [if_neg e,bG]
     obtain ⟨k1,k2,k3,k4⟩:=h.ix w hw e;exact ⟨k1,k2,by rw [if_neg (fun c=>aRy k1 x0 k4 c.1),k3]⟩
 · intro e
   rw [<- h.mem e];constructor
   · rintro ⟨w,hw,he⟩
     rw [cell] at he
     by_cases c:w=i
     · rw [if_pos c] at he;exact .inl he.symm
     · rw [if_neg c] at he;exact .inr ⟨w,hw,c,he⟩
   · rintro (he|⟨w,hw,hwi,he⟩)
     · exact ⟨i,hi,by rw [cell,if_pos rfl,he]⟩
     · exact ⟨w,hw,by rw [cell,if_neg hwi];exact he⟩
noncomputable def jM (x:Ev):Nat->List Ev->List Int->Nat×List Ev×List Int
 |0,H,W=>(0,H,W)
 |i+1,H,W=>if dO x H[i / 2]! then jM x (i / 2) (H.set (i+1) H[i / 2]!) (W.set (H[i / 2]!).n ((i+1:Nat):Int)) else (i+1,H,W)
termination_by i=>i
decreasing_by omega
noncomputable def iL (n:Nat) (H:List Ev) (i:Nat):Nat:=if 2*i+2<n/\dO H[2*i+2]! H[2*i+1]! then 2*i+2 else 2*i+1
theorem pM (n:Nat) (H:List Ev) (i:Nat):iL n H i=2*i+1\/(iL n H i=2*i+2/\2*i+2<n):=by
 unfold iL;split
 · rename_i h;exact .inr ⟨rfl,h.1⟩
 · exact .inl rfl
noncomputable def dW (n:Nat) (x:Ev) (i:Nat) (H:List Ev) (W:List Int):Nat×List Ev×List Int:=
 if _h:2*i+1<n then
  if dO H[iL n H i]! x then dW n x (iL n H i) (H.set i H[iL n H i]!) (W.set (H[iL n H i]!).n (i:Int)) else (i,H,W)
 else (i,H,W)
termination_by n-i
decreasing_by
 rcases pM n H i with h|h<;>omega
structure GD (n:Nat) (H:List Ev) (i:Nat):Prop where
 den: ∀w,w<n->1<=(H[w]!).2.1
 ord: ∀k,0<k->k<n->k≠i->(k-1) / 2≠i-> ¬dO H[k]! H[(k-1) / 2]!
 grand:0<i-> ∀k,0<k->k<n->(k-1) / 2=i-> ¬dO H[k]! H[(i-1) / 2]!
theorem KQ {n : Nat} {x : Ev} {M : Ev -> Prop} (dx : 1 <= x.2.1) : ∀ (i : Nat) (H : List Ev) (W : List Int), F7 n x M H W i -> GD n H i ->
    ∃ j H1 W1, jM x i H W = (j, H1, W1) /\ F7 n x M H1 W1 j /\ GD n H1 j /\ H1.length = H.length /\ W1.length = W.length /\ (0 < j -> ¬ dO x H1[(j - 1) / 2]!) /\
      (∀ k, n <= k -> H1[k]! = H[k]!) /\ (∀ k, (∀ w, w < n -> w ≠ i -> (H[w]!).n ≠ k) -> W1[k]! = W[k]!) /\
      ((∀ k, 0 < k -> k < n -> (k - 1) / 2 = i -> ¬ dO H[k]! x) -> ∀ k, 0 < k -> k < n -> (k - 1) / 2 = j -> ¬ dO H1[k]! x)
  | 0, H, W, h, o => ⟨0, H, W, by rw [jM], h, o, rfl, rfl, fun h => by omega, fun _ _ => rfl, fun _ _ => rfl, fun h => h⟩
  | i + 1, H, W, h, o => by
    rw [jM]
    by_cases hl : dO x H[i / 2]!
    · rw [if_pos hl]
      have hi := h.lt
      have hn := h.hn
      have hp : i / 2 < n := by omega
      have hne : i / 2 ≠ i + 1 := by omega
      have hm := h.move hp hne
      have cell : ∀ w, (H.set (i + 1) H[i / 2]!)[w]! = if w = i + 1 then H[i / 2]! else H[w]! := by
        intro w
        rw [bG]
        by_cases e : w = i + 1
        · rw [if_pos ⟨e, by omega⟩, if_pos e]
        · rw [if_neg (fun k => e k.1), if_neg e]
      have o' : GD n (H.set (i + 1) H[i / 2]!) (i / 2) := by
        refine ⟨?_, ?_, ?_⟩
        · intro w hw
          rw [cell]
          split
          · exact o.den _ hp
          · exact o.den _ hw
        · intro k k0 kn k1 k2
          rw [cell, cell]
          by_cases e : k = i + 1
          · subst e; exact absurd (by omega) k2
          · rw [if_neg e]
            by_cases e2 : (k - 1) / 2 = i + 1
            · rw [if_pos e2]
              have := o.grand (by omega) k k0 kn e2
              rwa [show (i + 1 - 1) / 2 = i / 2 by omega] at this
            · rw [if_neg e2]
              exact o.ord k k0 kn e e2
        · intro p0 k k0 kn k1
          rw [cell, cell, if_neg (show (i / 2 - 1) / 2 ≠ i + 1 by omega)]
          have up1 : ¬ dO H[i / 2]! H[(i / 2 - 1) / 2]! := o.ord (i / 2) p0 hp hne (by omega)
          by_cases e : k = i + 1
          · rw [if_pos e]; exact up1
          · rw [if_neg e]
            have up2 : ¬ dO H[k]! H[i / 2]! := by
              have := o.ord k k0 kn e (by omega)
              rwa [k1] at this
            exact AA (o.den _ (by omega)) (o.den _ hp) (o.den _ kn) up1 up2
      obtain ⟨j, H1, W1, e1, e3, e4, e5, e6, e7, e8, e9, e10⟩ := KQ dx (i / 2) _ _ hm o'
      rw [List.length_set] at e5 e6
      refine ⟨j, H1, W1, e1, e3, e4, e5, e6, e7, ?_, ?_, ?_⟩
      · intro k hk
        rw [e8 k hk, cell, if_neg (by omega)]
      · intro k hk
        rw [e9 k ?_, bG, if_neg (fun c => hk (i / 2) hp hne c.1.symm)]
        intro w hw hwp
        rw [cell]
        split
        · exact hk (i / 2) hp hne
        · rename_i e; exact hk w hw e
      · intro _
        refine e10 fun k k0 kn k1 => ?_
        rw [cell]
        by_cases e : k = i + 1
        · rw [if_pos e]; exact oW hl
        · rw [if_neg e]
          have up2 : ¬ dO H[k]! H[i / 2]! := by
            have := o.ord k k0 kn e (by omega)
            rwa [k1] at this
          exact AA dx (o.den _ hp) (o.den _ kn) (oW hl) up2
    · rw [if_neg hl]
      refine ⟨i + 1, H, W, rfl, h, o, rfl, rfl, fun _ => ?_, fun _ _ => rfl, fun _ _ => rfl, fun h => h⟩
      rwa [show (i + 1 - 1) / 2 = i / 2 by omega]
termination_by i=>i
decreasing_by omega
theorem aAp {n:Nat} {x:Ev} {i:Nat} {H:List Ev} {W:List Int} (h: ∀k,0<k->k<n->(k-1) / 2=i-> ¬dO H[k]! x):dW n x i H W=(i,H,W):=by
 rw [dW];split
 · rename_i hk
   rw [if_neg];rcases pM n H i with e|⟨e,e2⟩
   · rw [e];exact h _ (by omega) hk (by omega)
   · rw [e];exact h _ (by omega) e2 (by omega)
 · rfl
theorem O6 {n : Nat} {x : Ev} {M : Ev -> Prop} (dx : 1 <= x.2.1) : ∀ (d i : Nat) (H : List Ev) (W : List Int), n - i <= d -> F7 n x M H W i -> GD n H i -> (0 < i -> ¬ dO x H[(i - 1) / 2]!) ->
    ∃ j H1 W1, dW n x i H W = (j, H1, W1) /\ F7 n x M H1 W1 j /\ GD n H1 j /\ H1.length = H.length /\ W1.length = W.length /\ (0 < j -> ¬ dO x H1[(j - 1) / 2]!) /\
      (∀ k, n <= k -> H1[k]! = H[k]!) /\ (∀ k, (∀ w, w < n -> w ≠ i -> (H[w]!).n ≠ k) -> W1[k]! = W[k]!) /\ (∀ k, 0 < k -> k < n -> (k - 1) / 2 = j -> ¬ dO H1[k]! x)
  | 0, i, H, W, hd, h, o, u => by have := h.lt; omega
  | d + 1, i, H, W, hd, h, o, u => by
    have hi := h.lt
    have hn := h.hn
    rw [dW]
    by_cases hk : 2 * i + 1 < n
    · rw [dif_pos hk]
      have kc := pM n H i
      have kn : iL n H i < n := by omega
      have kne : iL n H i ≠ i := by omega
      have kp : (iL n H i - 1) / 2 = i := by omega
      have kb : ∀ k, 0 < k -> k < n -> (k - 1) / 2 = i -> ¬ dO H[k]! H[iL n H i]! := by
        intro k k0 k1 k2
        have kk : k = 2 * i + 1 \/ k = 2 * i + 2 := by omega
        unfold iL
        split
        · rename_i hc
          rcases kk with e | e
          · rw [e]; exact oW hc.2
          · rw [e]; exact fun h => oW h h
        · rename_i hc
          rcases kk with e | e
          · rw [e]; exact fun h => oW h h
          · rw [e] at k1 ⊢; exact fun h => hc ⟨k1, h⟩
      by_cases hl : dO H[iL n H i]! x
      · rw [if_pos hl]
        have hm := h.move kn kne
        have cell : ∀ w, (H.set i H[iL n H i]!)[w]! = if w = i then H[iL n H i]! else H[w]! := by
          intro w
          rw [bG]
          by_cases e : w = i
          · rw [if_pos ⟨e, by omega⟩, if_pos e]
          · rw [if_neg (fun k => e k.1), if_neg e]
        have o' : GD n (H.set i H[iL n H i]!) (iL n H i) := by
          refine ⟨?_, ?_, ?_⟩
          · intro w hw
            rw [cell]
            split
            · exact o.den _ kn
            · exact o.den _ hw
          · intro k k0 k1 k2 k3
            rw [cell, cell]
            by_cases e : k = i
            · rw [if_pos e, if_neg (by omega)]
              have := o.grand (by omega) (iL n H i) (by omega) kn kp
              rwa [e]
            · rw [if_neg e]
              by_cases e2 : (k - 1) / 2 = i
              · rw [if_pos e2]; exact kb k k0 k1 e2
              · rw [if_neg e2]; exact o.ord k k0 k1 e e2
          · intro _ k k0 k1 k2
            rw [cell, cell, if_pos kp, if_neg (by omega)]
            have := o.ord k k0 k1 (by omega) (by omega)
            rwa [k2] at this
        obtain ⟨j, H1, W1, e1, e3, e4, e5, e6, e7, e8, e9, e10⟩ := O6 dx d (iL n H i) _ _ (by omega) hm o' (by
          intro _
          rw [cell, if_pos kp]
          exact oW hl)
        rw [List.length_set] at e5 e6
        refine ⟨j, H1, W1, e1, e3, e4, e5, e6, e7, ?_, ?_, e10⟩
        · intro k hk
          rw [e8 k hk, cell, if_neg (by omega)]
        · intro k hk
          rw [e9 k ?_, bG, if_neg (fun c => hk (iL n H i) kn kne c.1.symm)]
          intro w hw hwp
          rw [cell]
          split
          · exact hk (iL n H i) kn kne
          · rename_i e; exact hk w hw e
      · rw [if_neg hl]
        refine ⟨i, H, W, rfl, h, o, rfl, rfl, u, fun _ _ => rfl, fun _ _ => rfl, ?_⟩
        intro k k0 k1 k2
        exact AA dx (o.den _ kn) (o.den _ k1) hl (kb k k0 k1 k2)
    · rw [dif_neg hk]
      refine ⟨i, H, W, rfl, h, o, rfl, rfl, u, fun _ _ => rfl, fun _ _ => rfl, ?_⟩
      intro k k0 k1 k2
      omega
structure EJ (n:Nat) (x:Ev) (M:Ev->Prop) (K:Nat->Prop) (H:List Ev) (W:List Int) (H1:List Ev) (W1:List Int):Prop where
 hl:H1.length=H.length
 wl:W1.length=W.length
 ix: ∀w,w<n->0<=(H1[w]!).ix/\(H1[w]!).ix<W.length/\W1[(H1[w]!).n]! =(w:Int)
 mem: ∀e,(∃w,w<n/\H1[w]! =e)↔(e=x\/M e)
 ord: ∀k,0<k->k<n-> ¬dO H1[k]! H1[(k-1) / 2]!
 out: ∀k,K k->W1[k]! =W[k]!
theorem Q2 {n:Nat} {x:Ev} {M:Ev->Prop} {H H1:List Ev} {W W1:List Int} {i j:Nat} (h1:F7 n x M H1 W1 j) (o1:GD n H1 j) (hl:H1.length=H.length) (wl:W1.length=W.length)
 (u:0<j-> ¬dO x H1[(j-1) / 2]!) (kd: ∀k,0<k->k<n->(k-1) / 2=j-> ¬dO H1[k]! x) (out: ∀k,(∀w,w<n->w≠i->(H[w]!).n≠k)->W1[k]! =W[k]!):
 EJ n x M (fun k=>k≠x.n/\ ∀w,w<n->w≠i->(H[w]!).n≠k) H W (H1.set j x) (W1.set x.n (j:Int)):=by
 have hn:=h1.hn;have hj:=h1.lt;have f:=h1.fill;have cell: ∀w,(H1.set j x)[w]! =if w=j then x else H1[w]!:=by
  intro w;rw [bG]
  by_cases e:w=j
  · rw [if_pos ⟨e,by omega⟩,if_pos e]
  · rw [if_neg (fun k=>e k.1),if_neg e]
 refine ⟨by rw [List.length_set];exact hl,by rw [List.length_set];exact wl,?_,f.2,?_,?_⟩
 · rw [<- wl];exact f.1
 · intro k k0 kn
   rw [cell,cell]
   by_cases e:k=j
   · rw [if_pos e,if_neg (by omega),e];exact u (by omega)
   · rw [if_neg e]
     by_cases e2:(k-1) / 2=j
     · rw [if_pos e2];exact kd k k0 kn e2
     · rw [if_neg e2];exact o1.ord k k0 kn e e2
 · rintro k ⟨k1,k2⟩
   rw [bG,if_neg (fun c=>k1 c.1)]
   exact out k k2
noncomputable def cK (n:Nat) (x:Ev) (i:Nat) (H:List Ev) (W:List Int):List Ev×List Int:=
 let u:=jM x i H W
 let d:=dW n x u.1 u.2.1 u.2.2
 (d.2.1.set d.1 x,d.2.2.set x.n (d.1:Int))
theorem DK {n:Nat} {x:Ev} {M:Ev->Prop} (dx:1<=x.2.1) {i:Nat} {H:List Ev} {W:List Int} (h:F7 n x M H W i) (o:GD n H i):
 EJ n x M (fun k=>k≠x.n/\ ∀w,w<n->w≠i->(H[w]!).n≠k) H W (cK n x i H W).1 (cK n x i H W).2:=by
 obtain ⟨j,H1,W1,e1,e3,e4,e5,e6,e7,e8,e9,e10⟩:=KQ dx i H W h o;obtain ⟨k,H2,W2,f1,f3,f4,f5,f6,f7,f8,f9,f10⟩:=O6 dx n j H1 W1 (by omega) e3 e4 e7
 have e:cK n x i H W=(H2.set k x,W2.set x.n (k:Int)):=by
  unfold cK;rw [e1];dsimp only;rw [f1]
 rw [e];refine Q2 f3 f4 (by omega) (by omega) f7 f10 ?_
 intro c hc;rw [f9 c ?_,e9 c hc];intro w hw hwj hcw;have hm:M H1[w]!:=(e3.mem _).1 ⟨w,hw,hwj,rfl⟩;obtain ⟨v,v1,v2,v3⟩:=(h.mem _).2 hm;exact hc v v1 v2 (by rw [v3];exact hcw)
theorem T5 {n:Nat} {x:Ev} {M:Ev->Prop} (dx:1<=x.2.1) {i:Nat} {H:List Ev} {W:List Int} (h:F7 n x M H W i) (o:GD n H i) (hk: ∀k,0<k->k<n->(k-1) / 2=i-> ¬dO H[k]! x):
 cK n x i H W=((jM x i H W).2.1.set (jM x i H W).1 x,(jM x i H W).2.2.set x.n ((jM x i H W).1:Int)):=by
 obtain ⟨j,H1,W1,e1,e3,e4,e5,e6,e7,e8,e9,e10⟩:=KQ dx i H W h o;unfold cK;rw [e1];dsimp only;rw [aAp (e10 hk)]
end Go.Proofs.YthljmpcakagceaaGreat
namespace Go.Proofs.YthljmpcakagceaaGreat
open Go.Vm Classical
def sC (x:Ev):Prop:=bM (x.1,x.2.1)/\mU (x.1,x.2.1)/\0<=x.2.2.1/\x.2.2.1<=1000000
theorem sC.den {x:Ev} (h:sC x):1<=x.2.1:=h.1.1
noncomputable def M4 (x y:Ev):Int:=if mR (x.1,x.2.1) (y.1,y.2.1)≠0 then mR (x.1,x.2.1) (y.1,y.2.1) else kL x.2.2.1 y.2.2.1
theorem HJ (x y:Ev):M4 x y<0↔dO x y:=by
 unfold M4 dO
 by_cases h:mR (x.1,x.2.1) (y.1,y.2.1)=0
 · rw [if_neg (by simpa using h),h]
   rcases eB x.2.2.1 y.2.2.1 with ⟨h1,e⟩|⟨h1,e⟩|⟨h1,e⟩<;>rw [e]<;>constructor<;>intro<;>omega
 · rw [if_pos h];constructor<;>intro<;>omega
theorem dS {x y:Ev} (hx:sC x) (hy:sC y):cH x y=some (M4 x y):=by
 unfold cH M4;rw [MV hx.2.1 hy.2.1,if_pos ⟨hx.1,hy.1⟩];simp only [aB,lI,EH]
theorem oR {x y:Ev} (hx:sC x) (hy:sC y):eQ x y=some (decide (dO x y)):=by
 unfold eQ dO;rw [BJ hx.2.1 hy.2.1];simp only [aB];generalize mR (x.1,x.2.1) (y.1,y.2.1)=c
 by_cases h1:c<0
 · simp [h1]
 · by_cases h2:c=0
   · subst h2;simp
   · simp only [h1,fW h2,h2,decide_false,cond_false,false_or,false_and]
theorem I6 {x y:Ev}:decide (M4 x y<0)=decide (dO x y):=by simp only [HJ]
theorem Q3 {x y:Ev}:decide (0<=M4 x y)=!decide (dO x y):=by
 have:=HJ x y
 by_cases h:dO x y
 · have h2:=this.2 h
   have: ¬0<=M4 x y:=by omega
   simp [h,this]
 · have h2: ¬M4 x y<0:=fun k=>h (this.1 k)
   have:0<=M4 x y:=by omega
   simp [h,this]
structure nJ (n:Nat) (H:List Ev) (W:List Int):Prop where
 hn:n<=H.length
 hb:H.length<=1000000
 ev: ∀w,w<n->sC H[w]!/\0<=(H[w]!).ix/\(H[w]!).ix<W.length
theorem nJ.move {n:Nat} {H:List Ev} {W:List Int} (c:nJ n H W) {i j:Nat} (_hi:i<n) (hj:j<n) (k:Nat) (v:Int):nJ n (H.set i H[j]!) (W.set k v):=by
 have hn:=c.hn;refine ⟨by rw [List.length_set];exact hn,by rw [List.length_set];exact c.hb,?_⟩
 intro w hw;rw [bG,List.length_set];split
 · exact c.ev j hj
 · exact c.ev w hw
theorem KR {H:List Ev} {W:List Int} {x:Ev} {u fr:List Int} {us:List Bool} {i:Nat} (hi:i<H.length) (h0:0<=x.ix) (h1:x.ix<W.length):
 bW (u,us,fr,(i:Int),x.1,x.2.1,x.2.2.1,x.2.2.2.1,x.2.2.2.2,H,W)=some (H.set i x,W.set x.n (i:Int)):=by
 unfold bW;have e1:=aC H i hi;have e2:=dM (l:=W) h0 h1;simp only [e1,e2,aB,zR,beq_self_eq_true,cond_true];rfl
theorem KS {n cap:Nat} {H:List Ev} {W:List Int} {x:Ev} {u fr:List Int} {us:List Bool} {i:Nat} (hi:i<n) (hn:n<=H.length) (h0:0<=x.ix) (h1:x.ix<W.length):
 bV (u,us,fr,n,cap,(i:Int),x.1,x.2.1,x.2.2.1,x.2.2.2.1,x.2.2.2.2,H,W)=some (H.set i x,W.set x.n (i:Int)):=by
 unfold bV;have e1:=aC (H.take n) i (by rw [List.length_take];omega)
 have e2:=dM (l:=W) h0 h1;simp only [e1,e2,aB,zR,beq_self_eq_true,cond_true];rfl
theorem uN {i:Nat} (h:i<1000000000):aA .i64 (Int.tdiv (aA .i64 (((i+1:Nat):Int) -1)) 2)=((i / 2:Nat):Int):=by
 have e:aA .i64 (((i+1:Nat):Int) -1)=(i:Int):=by rw [wi];omega
 rw [e,Int.tdiv_eq_ediv_of_nonneg (by omega),wi];omega
theorem yX {i:Nat} (h:i<1000000000):aA .i64 ((aA .i64 (2*(i:Int)))+1)=((2*i+1:Nat):Int):=by
 have e:aA .i64 (2*(i:Int))=((2*i:Nat):Int):=by rw [wi];omega
 rw [e,wi];omega
theorem DL {n:Nat} {x:Ev}: ∀{i:Nat} {H:List Ev} {W:List Int} {j:Nat} {H1:List Ev} {W1:List Int},nJ n H W->i<n->jM x i H W=(j,H1,W1)-> ∀w,w<n->sC H1[w]!/\0<=(H1[w]!).ix/\(H1[w]!).ix<W.length
 |0,H,W,j,H1,W1,c,hi,e=>by
  rw [jM] at e;injection e with e1 e;injection e with e2 e3;subst e2;exact c.ev
 |i+1,H,W,j,H1,W1,c,hi,e=>by
  rw [jM] at e;split at e
  · have:=DL (c.move hi (show i / 2<n by omega) (H[i / 2]!).n ((i+1:Nat):Int)) (by omega) e
    rw [List.length_set] at this;exact this
  · injection e with e1 e;injection e with e2 e3
    subst e2;exact c.ev
termination_by i=>i
decreasing_by omega
theorem WN {c0:List Int×List Bool×List Int×Int×Int×Int×Int×Int×Int×List Ev×List Int} {n i:Nat} {H:List Ev} {W:List Int} {u fr:List Int} {us:List Bool} {x:Ev}
 (c:nJ n H W) (hn:H.length=n) (hi:i<n) (hx:sC x) (x0:0<=x.ix) (x1:x.ix<W.length) (l1:c0.2.2.2.2.2.2.2.2.2.1.length=n) (l2:c0.2.2.2.2.2.2.2.2.2.2.length=W.length):
 gE c0 ((i:Int),((2*i+1:Nat):Int),H,W,u,us,fr,x)=
  some (if 2*i+1<n/\dO H[iL n H i]! x then .next (((iL n H i:Nat):Int),((2*iL n H i+1:Nat):Int),H.set i H[iL n H i]!,W.set (H[iL n H i]!).n (i:Int),u,us,fr,x)
   else .done (.done (H.set i x,W.set x.n (i:Int)))):=by
 have hb:=c.hb;have fin:(bW (u,us,fr,(i:Int),x.1,x.2.1,x.2.2.1,x.2.2.2.1,x.2.2.2.2,H,W))=some (H.set i x,W.set x.n (i:Int)):=KR (by omega) x0 x1
 have ln1:(H.set i x).length=c0.2.2.2.2.2.2.2.2.2.1.length:=by rw [List.length_set];omega
 have ln2:(W.set x.n (i:Int)).length=c0.2.2.2.2.2.2.2.2.2.2.length:=by rw [List.length_set];omega
 unfold gE;simp only [aF,hn,fin,aB,ln1,ln2,beq_self_eq_true,cond_true]
 by_cases h1:2*i+1<n
 · have e1:decide (((2*i+1:Nat):Int)<(n:Int))=true:=by simp;omega
   have e2:aA .i64 (((2*i+1:Nat):Int)+1)=((2*i+2:Nat):Int):=bC (by omega)
   obtain ⟨ok1,a1,a2⟩:=c.ev (2*i+1) h1;have g1:=aC H (2*i+1) (by omega)
   have s1:(bW (u,us,fr,(i:Int),(H[2*i+1]!).1,(H[2*i+1]!).2.1,(H[2*i+1]!).2.2.1,(H[2*i+1]!).2.2.2.1,(H[2*i+1]!).2.2.2.2,H,W))=some (H.set i H[2*i+1]!,W.set (H[2*i+1]!).n (i:Int)):=KR (by omega) a1 a2
   simp only [e1,e2,cond_true,g1,aB,s1,dS ok1 hx,Q3,yX (show 2*i+1<1000000000 by omega)]
   by_cases h2:2*i+2<n
   · have e3:decide (((2*i+2:Nat):Int)<(n:Int))=true:=by simp;omega
     obtain ⟨ok2,b1,b2⟩:=c.ev (2*i+2) h2;have g2:=aC H (2*i+2) (by omega)
     have s2:(bW (u,us,fr,(i:Int),(H[2*i+2]!).1,(H[2*i+2]!).2.1,(H[2*i+2]!).2.2.1,(H[2*i+2]!).2.2.2.1,(H[2*i+2]!).2.2.2.2,H,W))=some (H.set i H[2*i+2]!,W.set (H[2*i+2]!).n (i:Int)):=KR (by omega) b1 b2
     simp only [e3,cond_true,g2,aB,s2,dS ok2 hx,dS ok2 ok1,I6,Q3,yX (show 2*i+2<1000000000 by omega)]
     by_cases h3:dO H[2*i+2]! H[2*i+1]!
     · have k:iL n H i=2*i+2:=by unfold iL;rw [if_pos ⟨h2,h3⟩]
       rw [k]
       by_cases h4:dO H[2*i+2]! x
       · simp only [h1,h3,h4,decide_true,cond_true,cond_false,Bool.not_true,and_self,if_true]
       · simp only [h1,h3,h4,decide_true,decide_false,cond_true,Bool.not_false,and_false,if_false]
     · have k:iL n H i=2*i+1:=by unfold iL;rw [if_neg (fun h=>h3 h.2)]
       rw [k]
       by_cases h4:dO H[2*i+1]! x
       · simp only [h1,h3,h4,decide_true,decide_false,cond_false,Bool.not_true,and_self,if_true]
       · simp only [h1,h3,h4,decide_false,cond_true,cond_false,Bool.not_false,and_false,if_false]
   · have e3:decide (((2*i+2:Nat):Int)<(n:Int))=false:=by simp;omega
     have k:iL n H i=2*i+1:=by unfold iL;rw [if_neg (fun h=>h2 h.1)]
     rw [k];simp only [e3,cond_false]
     by_cases h4:dO H[2*i+1]! x
     · simp only [h1,h4,decide_true,cond_false,Bool.not_true,and_self,if_true]
     · simp only [h1,h4,decide_false,cond_true,Bool.not_false,and_false,if_false]
 · have e1:decide (((2*i+1:Nat):Int)<(n:Int))=false:=by simp;omega
   rw [if_neg (fun h=>h1 h.1),e1];rfl
theorem BL {c0 : List Int × List Bool × List Int × Int × Int × Int × Int × Int × Int × List Ev × List Int} {n : Nat} {u fr : List Int} {us : List Bool} {x : Ev} (hx : sC x) (x0 : 0 <= x.ix) (l1 : c0.2.2.2.2.2.2.2.2.2.1.length = n) :
    ∀ (d i : Nat) (H : List Ev) (W : List Int), n - i <= d -> nJ n H W -> H.length = n -> i < n -> x.ix < W.length -> c0.2.2.2.2.2.2.2.2.2.2.length = W.length ->
      aH (gE c0) ((i : Int), ((2 * i + 1 : Nat) : Int), H, W, u, us, fr, x) = some (.done ((dW n x i H W).2.1.set (dW n x i H W).1 x, (dW n x i H W).2.2.set x.n ((dW n x i H W).1 : Int)))
  | 0, i, H, W, hd, c, hn, hi, x1, l2 => by omega
  | d + 1, i, H, W, hd, c, hn, hi, x1, l2 => by
    have r := WN (u := u) (us := us) (fr := fr) c hn hi hx x0 x1 l1 l2
    by_cases h : 2 * i + 1 < n /\ dO H[iL n H i]! x
    · rw [if_pos h] at r
      have kc := pM n H i
      have kn : iL n H i < n := by omega
      rw [aX r, BL hx x0 l1 d (iL n H i) _ _ (by omega) (c.move hi kn _ _) (by rw [List.length_set]; exact hn) kn (by rw [List.length_set]; exact x1) (by rw [List.length_set]; exact l2)]
      have e : dW n x i H W = dW n x (iL n H i) (H.set i H[iL n H i]!) (W.set (H[iL n H i]!).n (i : Int)) := by
        rw [dW, dif_pos h.1, if_pos h.2]
      rw [e]
    · rw [if_neg h] at r
      rw [aL r]
      have e : dW n x i H W = (i, H, W) := by
        rw [dW]
        split
        · rename_i h1; rw [if_neg (fun k => h ⟨h1, k⟩)]
        · rfl
      rw [e]
theorem M5 {c0 : List Int × List Bool × List Int × Int × Int × Int × Int × Int × Int × List Ev × List Int} {n : Nat} {u fr : List Int} {us : List Bool} {x : Ev} (hx : sC x) (x0 : 0 <= x.ix) (l1 : c0.2.2.2.2.2.2.2.2.2.1.length = n) :
    ∀ (i : Nat) (H : List Ev) (W : List Int), nJ n H W -> H.length = n -> i < n -> x.ix < W.length -> c0.2.2.2.2.2.2.2.2.2.2.length = W.length ->
      aH (eV c0) ((i : Int), H, W, u, us, fr, x) = some (cK n x i H W)
  | 0, H, W, c, hn, hi, x1, l2 => by
    have hb := c.hb
    have dn := BL (u := u) (us := us) (fr := fr) hx x0 l1 n 0 H W (by omega) c hn hi x1 l2
    refine (aL (r := cK n x 0 H W) ?_)
    unfold eV
    have e1 : decide ((0 : Int) < ((0 : Nat) : Int)) = false := by simp
    simp only [e1, cond_false, yX (show 0 < 1000000000 by omega)]
    rw [dn]
    unfold cK
    rw [jM]
  | i + 1, H, W, c, hn, hi, x1, l2 => by
    have hb := c.hb
    have e1 : decide ((0 : Int) < ((i + 1 : Nat) : Int)) = true := decide_eq_true (by omega)
    have hp : i / 2 < n := by omega
    obtain ⟨ok1, a1, a2⟩ := c.ev (i / 2) hp
    have g1 := aC H (i / 2) (by omega)
    have s1 : (bW (u, us, fr, ((i + 1 : Nat) : Int), (H[i / 2]!).1, (H[i / 2]!).2.1, (H[i / 2]!).2.2.1, (H[i / 2]!).2.2.2.1, (H[i / 2]!).2.2.2.2, H, W)) = some (H.set (i + 1) H[i / 2]!, W.set (H[i / 2]!).n ((i + 1 : Nat) : Int)) := KR (by omega) a1 a2
    by_cases h : dO x H[i / 2]!
    · have r : eV c0 (((i + 1 : Nat) : Int), H, W, u, us, fr, x) = some (.next (((i / 2 : Nat) : Int), H.set (i + 1) H[i / 2]!, W.set (H[i / 2]!).n ((i + 1 : Nat) : Int), u, us, fr, x)) := by
        unfold eV
        simp only [e1, cond_true, uN (show i < 1000000000 by omega), g1, aB, dS hx ok1, I6, h, decide_true, s1]
      rw [aX r, M5 hx x0 l1 (i / 2) _ _ (c.move hi hp _ _) (by rw [List.length_set]; exact hn) hp (by rw [List.length_set]; exact x1) (by rw [List.length_set]; exact l2)]
      have e : jM x (i + 1) H W = jM x (i / 2) (H.set (i + 1) H[i / 2]!) (W.set (H[i / 2]!).n ((i + 1 : Nat) : Int)) := by
        rw [jM, if_pos h]
      unfold cK
      rw [e]
    · have dn := BL (u := u) (us := us) (fr := fr) hx x0 l1 n (i + 1) H W (by omega) c hn hi x1 l2
      refine (aL (r := cK n x (i + 1) H W) ?_)
      unfold eV
      simp only [e1, cond_true, uN (show i < 1000000000 by omega), g1, aB, dS hx ok1, I6, h, decide_false, cond_false, yX (show i + 1 < 1000000000 by omega)]
      rw [dn]
      unfold cK
      rw [jM, if_neg h]
termination_by i=>i
decreasing_by omega
theorem M6 {n:Nat} {u fr:List Int} {us:List Bool} {x:Ev} (hx:sC x) (x0:0<=x.ix) {i:Nat} {H:List Ev} {W:List Int} (c:nJ n H W) (hn:H.length=n) (hi:i<n) (x1:x.ix<W.length):
 fC (u,us,fr,(i:Int),x.1,x.2.1,x.2.2.1,x.2.2.2.1,x.2.2.2.2,H,W)=some (cK n x i H W):=by
 unfold fC;exact M5 hx x0 hn i H W c hn hi x1 rfl
end Go.Proofs.YthljmpcakagceaaGreat
namespace Go.Proofs.YthljmpcakagceaaGreat
open Go.Vm Classical
theorem gJ {l:List Ev} {n i:Nat} (h:i<n) (hn:n<=l.length):aO (l.take n) (i:Int)=some l[i]!:=by
 rw [aC (l.take n) i (by rw [List.length_take];omega),lH h]
theorem WQ {c0:List Int×List Bool×List Int×Nat×Nat×Int×Int×Int×Int×Int×Int×List Ev×List Int} {n cap i:Nat} {H:List Ev} {W:List Int} {u fr:List Int} {us:List Bool} {x:Ev}
 (c:nJ n H W) (hi:i<n) (hx:sC x) (x0:0<=x.ix) (x1:x.ix<W.length) (l1:c0.2.2.2.2.2.2.2.2.2.2.2.1.length=H.length) (l2:c0.2.2.2.2.2.2.2.2.2.2.2.2.length=W.length):
 gD c0 ((i:Int),((2*i+1:Nat):Int),H,W,u,us,fr,n,cap,x)=
  some (if 2*i+1<n/\dO H[iL n H i]! x then .next (((iL n H i:Nat):Int),((2*iL n H i+1:Nat):Int),H.set i H[iL n H i]!,W.set (H[iL n H i]!).n (i:Int),u,us,fr,n,cap,x)
   else .done (.done (H.set i x,W.set x.n (i:Int)))):=by
 have hb:=c.hb;have hnn:=c.hn;have fin:(bV (u,us,fr,n,cap,(i:Int),x.1,x.2.1,x.2.2.1,x.2.2.2.1,x.2.2.2.2,H,W))=some (H.set i x,W.set x.n (i:Int)):=KS (cap:=cap) (by omega) c.hn x0 x1
 have ln1:(H.set i x).length=c0.2.2.2.2.2.2.2.2.2.2.2.1.length:=by rw [List.length_set];omega
 have ln2:(W.set x.n (i:Int)).length=c0.2.2.2.2.2.2.2.2.2.2.2.2.length:=by rw [List.length_set];omega
 unfold gD;simp only [aF,fin,aB,ln1,ln2,beq_self_eq_true,cond_true]
 by_cases h1:2*i+1<n
 · have e1:decide (((2*i+1:Nat):Int)<(n:Int))=true:=by simp;omega
   have e2:aA .i64 (((2*i+1:Nat):Int)+1)=((2*i+2:Nat):Int):=bC (by omega)
   obtain ⟨ok1,a1,a2⟩:=c.ev (2*i+1) h1;have g1:=gJ (l:=H) (n:=n) (i:=2*i+1) (by omega) c.hn
   have s1:(bV (u,us,fr,n,cap,(i:Int),(H[2*i+1]!).1,(H[2*i+1]!).2.1,(H[2*i+1]!).2.2.1,(H[2*i+1]!).2.2.2.1,(H[2*i+1]!).2.2.2.2,H,W))=some (H.set i H[2*i+1]!,W.set (H[2*i+1]!).n (i:Int)):=KS (cap:=cap) (by omega) c.hn a1 a2
   simp only [e1,e2,cond_true,g1,aB,s1,dS ok1 hx,Q3,yX (show 2*i+1<1000000000 by omega)]
   by_cases h2:2*i+2<n
   · have e3:decide (((2*i+2:Nat):Int)<(n:Int))=true:=by simp;omega
     obtain ⟨ok2,b1,b2⟩:=c.ev (2*i+2) h2;have g2:=gJ (l:=H) (n:=n) (i:=2*i+2) (by omega) c.hn
     have s2:(bV (u,us,fr,n,cap,(i:Int),(H[2*i+2]!).1,(H[2*i+2]!).2.1,(H[2*i+2]!).2.2.1,(H[2*i+2]!).2.2.2.1,(H[2*i+2]!).2.2.2.2,H,W))=some (H.set i H[2*i+2]!,W.set (H[2*i+2]!).n (i:Int)):=KS (cap:=cap) (by omega) c.hn b1 b2
     simp only [e3,cond_true,g2,aB,s2,dS ok2 hx,dS ok2 ok1,I6,Q3,yX (show 2*i+2<1000000000 by omega)]
     by_cases h3:dO H[2*i+2]! H[2*i+1]!
     · have k:iL n H i=2*i+2:=by unfold iL;rw [if_pos ⟨h2,h3⟩]
       rw [k]
       by_cases h4:dO H[2*i+2]! x
       · simp only [h1,h3,h4,decide_true,cond_true,cond_false,Bool.not_true,and_self,if_true]
       · simp only [h1,h3,h4,decide_true,decide_false,cond_true,Bool.not_false,and_false,if_false]
     · have k:iL n H i=2*i+1:=by unfold iL;rw [if_neg (fun h=>h3 h.2)]
       rw [k]
       by_cases h4:dO H[2*i+1]! x
       · simp only [h1,h3,h4,decide_true,decide_false,cond_false,Bool.not_true,and_self,if_true]
       · simp only [h1,h3,h4,decide_false,cond_true,cond_false,Bool.not_false,and_false,if_false]
   · have e3:decide (((2*i+2:Nat):Int)<(n:Int))=false:=by simp;omega
     have k:iL n H i=2*i+1:=by unfold iL;rw [if_neg (fun h=>h2 h.1)]
     rw [k];simp only [e3,cond_false]
     by_cases h4:dO H[2*i+1]! x
     · simp only [h1,h4,decide_true,cond_false,Bool.not_true,and_self,if_true]
     · simp only [h1,h4,decide_false,cond_true,Bool.not_false,and_false,if_false]
 · have e1:decide (((2*i+1:Nat):Int)<(n:Int))=false:=by simp;omega
   rw [if_neg (fun h=>h1 h.1),e1];rfl
theorem BM {c0 : List Int × List Bool × List Int × Nat × Nat × Int × Int × Int × Int × Int × Int × List Ev × List Int} {n cap : Nat} {u fr : List Int} {us : List Bool} {x : Ev} (hx : sC x) (x0 : 0 <= x.ix) :
    ∀ (d i : Nat) (H : List Ev) (W : List Int), n - i <= d -> nJ n H W -> c0.2.2.2.2.2.2.2.2.2.2.2.1.length = H.length -> i < n -> x.ix < W.length -> c0.2.2.2.2.2.2.2.2.2.2.2.2.length = W.length ->
      aH (gD c0) ((i : Int), ((2 * i + 1 : Nat) : Int), H, W, u, us, fr, n, cap, x) = some (.done ((dW n x i H W).2.1.set (dW n x i H W).1 x, (dW n x i H W).2.2.set x.n ((dW n x i H W).1 : Int)))
  | 0, i, H, W, hd, c, hn, hi, x1, l2 => by omega
  | d + 1, i, H, W, hd, c, hn, hi, x1, l2 => by
    have r := WQ (u := u) (us := us) (fr := fr) (cap := cap) c hi hx x0 x1 hn l2
    by_cases h : 2 * i + 1 < n /\ dO H[iL n H i]! x
    · rw [if_pos h] at r
      have kc := pM n H i
      have kn : iL n H i < n := by omega
      rw [aX r, BM hx x0 d (iL n H i) _ _ (by omega) (c.move hi kn _ _) (by rw [List.length_set]; exact hn) kn (by rw [List.length_set]; exact x1) (by rw [List.length_set]; exact l2)]
      have e : dW n x i H W = dW n x (iL n H i) (H.set i H[iL n H i]!) (W.set (H[iL n H i]!).n (i : Int)) := by
        rw [dW, dif_pos h.1, if_pos h.2]
      rw [e]
    · rw [if_neg h] at r
      rw [aL r]
      have e : dW n x i H W = (i, H, W) := by
        rw [dW]
        split
        · rename_i h1; rw [if_neg (fun k => h ⟨h1, k⟩)]
        · rfl
      rw [e]
theorem M7 {c0 : List Int × List Bool × List Int × Nat × Nat × Int × Int × Int × Int × Int × Int × List Ev × List Int} {n cap : Nat} {u fr : List Int} {us : List Bool} {x : Ev} (hx : sC x) (x0 : 0 <= x.ix) :
    ∀ (i : Nat) (H : List Ev) (W : List Int), nJ n H W -> c0.2.2.2.2.2.2.2.2.2.2.2.1.length = H.length -> i < n -> x.ix < W.length -> c0.2.2.2.2.2.2.2.2.2.2.2.2.length = W.length ->
      aH (eU c0) ((i : Int), H, W, u, us, fr, n, cap, x) = some (cK n x i H W)
  | 0, H, W, c, hn, hi, x1, l2 => by
    have hb := c.hb
    have hnn := c.hn
    have dn := BM (u := u) (us := us) (fr := fr) (cap := cap) hx x0 n 0 H W (by omega) c hn hi x1 l2
    refine (aL (r := cK n x 0 H W) ?_)
    unfold eU
    have e1 : decide ((0 : Int) < ((0 : Nat) : Int)) = false := by simp
    simp only [e1, cond_false, yX (show 0 < 1000000000 by omega)]
    rw [dn]
    unfold cK
    rw [jM]
  | i + 1, H, W, c, hn, hi, x1, l2 => by
    have hb := c.hb
    have hnn := c.hn
    have e1 : decide ((0 : Int) < ((i + 1 : Nat) : Int)) = true := decide_eq_true (by omega)
    have hp : i / 2 < n := by omega
    obtain ⟨ok1, a1, a2⟩ := c.ev (i / 2) hp
    have g1 := gJ (l := H) (n := n) (i := i / 2) (by omega) c.hn
    have s1 : (bV (u, us, fr, n, cap, ((i + 1 : Nat) : Int), (H[i / 2]!).1, (H[i / 2]!).2.1, (H[i / 2]!).2.2.1, (H[i / 2]!).2.2.2.1, (H[i / 2]!).2.2.2.2, H, W)) = some (H.set (i + 1) H[i / 2]!, W.set (H[i / 2]!).n ((i + 1 : Nat) : Int)) := KS (cap := cap) (by omega) c.hn a1 a2
    by_cases h : dO x H[i / 2]!
    · have r : eU c0 (((i + 1 : Nat) : Int), H, W, u, us, fr, n, cap, x) = some (.next (((i / 2 : Nat) : Int), H.set (i + 1) H[i / 2]!, W.set (H[i / 2]!).n ((i + 1 : Nat) : Int), u, us, fr, n, cap, x)) := by
        unfold eU
        simp only [e1, cond_true, uN (show i < 1000000000 by omega), g1, aB, dS hx ok1, I6, h, decide_true, s1]
      rw [aX r, M7 hx x0 (i / 2) _ _ (c.move hi hp _ _) (by rw [List.length_set]; exact hn) hp (by rw [List.length_set]; exact x1) (by rw [List.length_set]; exact l2)]
      have e : jM x (i + 1) H W = jM x (i / 2) (H.set (i + 1) H[i / 2]!) (W.set (H[i / 2]!).n ((i + 1 : Nat) : Int)) := by
        rw [jM, if_pos h]
      unfold cK
      rw [e]
    · have dn := BM (u := u) (us := us) (fr := fr) (cap := cap) hx x0 n (i + 1) H W (by omega) c hn hi x1 l2
      refine (aL (r := cK n x (i + 1) H W) ?_)
      unfold eU
      simp only [e1, cond_true, uN (show i < 1000000000 by omega), g1, aB, dS hx ok1, I6, h, decide_false, cond_false, yX (show i + 1 < 1000000000 by omega)]
      rw [dn]
      unfold cK
      rw [jM, if_neg h]
termination_by i=>i
decreasing_by omega
theorem WR {n cap:Nat} {u fr:List Int} {us:List Bool} {x:Ev} (hx:sC x) (x0:0<=x.ix) {i:Nat} {H:List Ev} {W:List Int} (c:nJ n H W) (hi:i<n) (x1:x.ix<W.length):
 kM (u,us,fr,n,cap,(i:Int),x.1,x.2.1,x.2.2.1,x.2.2.2.1,x.2.2.2.2,H,W)=some (cK n x i H W):=by
 unfold kM;exact M7 hx x0 i H W c rfl hi x1 rfl
end Go.Proofs.YthljmpcakagceaaGreat
namespace Go.Proofs.YthljmpcakagceaaGreat
open Go.Vm Classical
theorem M8 {n cap:Nat} {H:List Ev} {W:List Int} {x:Ev} {u fr:List Int} {us:List Bool} {i k:Nat} (hi:i<n) (hk:k<n) (hik:k≠i) (hn:n<=H.length) (x0:0<=x.ix) (x1:x.ix<W.length) (k0:0<=(H[k]!).ix) (k1:(H[k]!).ix<W.length):
 iX (u,us,fr,n,cap,(i:Int),(k:Int),H.set i x,W.set x.n (i:Int))=some ((H.set i H[k]!).set k x,(W.set (H[k]!).n (i:Int)).set x.n (k:Int)):=by
 have cell: ∀w,(H.set i x)[w]! =if w=i then x else H[w]!:=by
  intro w;rw [bG]
  by_cases e:w=i
  · rw [if_pos ⟨e,by omega⟩,if_pos e]
  · rw [if_neg (fun k=>e k.1),if_neg e]
 have sh:((H.set i x).set i H[k]!).set k x=(H.set i H[k]!).set k x:=by rw [List.set_set]
 have sw:((W.set x.n (i:Int)).set (H[k]!).n (i:Int)).set x.n (k:Int)=(W.set (H[k]!).n (i:Int)).set x.n (k:Int):=by
  by_cases e:x.n=(H[k]!).n
  · simp only [e,List.set_set]
  · rw [List.set_comm _ _ (fun h=>e h),List.set_set]
 have g1:aO ((H.set i x).take n) (k:Int)=some H[k]!:=by rw [gJ (by omega) (by rw [List.length_set];omega),cell,if_neg hik]
 have g2:aO ((H.set i x).take n) (i:Int)=some x:=by rw [gJ (by omega) (by rw [List.length_set];omega),cell,if_pos rfl]
 have g3:aO (((H.set i x).set i H[k]!).take n) (k:Int)=some H[k]!:=by rw [gJ (by omega) (by rw [List.length_set,List.length_set];omega),bG,if_neg (fun h=>hik h.1),cell,if_neg hik]
 have g4:aO (((H.set i H[k]!).set k x).take n) (i:Int)=some H[k]!:=by rw [gJ (by omega) (by rw [List.length_set,List.length_set];omega),bG,if_neg (fun h=>hik h.1.symm),bG,if_pos ⟨rfl,by omega⟩]
 have g5:aO (((H.set i H[k]!).set k x).take n) (k:Int)=some x:=by rw [gJ (by omega) (by rw [List.length_set,List.length_set];omega),bG,if_pos ⟨rfl,by rw [List.length_set];omega⟩]
 have w6:=dM (l:=W.set x.n (i:Int)) k0 (by rw [List.length_set];exact k1)
 have w7:=dM (l:=(W.set x.n (i:Int)).set (H[k]!).n (i:Int)) x0 (by rw [List.length_set,List.length_set];exact x1)
 have q1: ∀(l:List Int) (a:Int) (y:Ev),bZ l y.2.2.2.1 a=l.set y.n a:=fun _ _ _=>rfl
 unfold iX;simp only [mH,g1,g2,g3,aB,sh,g4,g5,q1,w6,w7,sw,List.length_set,beq_self_eq_true,cond_true]
theorem aCj {c0:List Int×List Bool×List Int×Nat×Nat×Int×List Ev×List Int} {n cap:Nat} {u fr:List Int} {us:List Bool} {x:Ev} (hx:sC x) (x0:0<=x.ix):
 ∀(i:Nat) (H:List Ev) (W:List Int),nJ n H W->i<n->x.ix<W.length->c0.2.2.2.2.2.2.1.length=H.length->c0.2.2.2.2.2.2.2.length=W.length->
  aH (iC c0) ((i:Int),H.set i x,W.set x.n (i:Int),u,us,fr,n,cap)=some (((jM x i H W).1:Int),(jM x i H W).2.1.set (jM x i H W).1 x,(jM x i H W).2.2.set x.n ((jM x i H W).1:Int))
 |0,H,W,c,hi,x1,l1,l2=>by
  have hnn:=c.hn;refine aL ?_;unfold iC;have e1:decide ((0:Int)<((0:Nat):Int))=false:=by simp
  rw [jM];simp only [e1,cond_false,List.length_set,l1,l2,beq_self_eq_true,cond_true]
 |i+1,H,W,c,hi,x1,l1,l2=>by
  have hb:=c.hb;have hnn:=c.hn;have e1:decide ((0:Int)<((i+1:Nat):Int))=true:=decide_eq_true (by omega)
  have hp:i / 2<n:=by omega
  have hne:i / 2≠i+1:=by omega
  obtain ⟨ok1,a1,a2⟩:=c.ev (i / 2) hp;have cell: ∀w,(H.set (i+1) x)[w]! =if w=i+1 then x else H[w]!:=by
   intro w;rw [bG]
   by_cases e:w=i+1
   · rw [if_pos ⟨e,by omega⟩,if_pos e]
   · rw [if_neg (fun k=>e k.1),if_neg e]
  have g0:aO ((H.set (i+1) x).take n) ((i+1:Nat):Int)=some x:=by rw [gJ (by omega) (by rw [List.length_set];omega),cell,if_pos rfl]
  have g1:aO ((H.set (i+1) x).take n) ((i / 2:Nat):Int)=some H[i / 2]!:=by rw [gJ (by omega) (by rw [List.length_set];omega),cell,if_neg hne]
  by_cases h:dO x H[i / 2]!
  · have sw:=M8 (cap:=cap) (u:=u) (us:=us) (fr:=fr) (x:=x) hi hp hne hnn x0 x1 a1 a2
    have r:iC c0 (((i+1:Nat):Int),H.set (i+1) x,W.set x.n ((i+1:Nat):Int),u,us,fr,n,cap)=some (.next (((i / 2:Nat):Int),(H.set (i+1) H[i / 2]!).set (i / 2) x,(W.set (H[i / 2]!).n ((i+1:Nat):Int)).set x.n ((i / 2:Nat):Int),u,us,fr,n,cap)):=by
     unfold iC;simp only [e1,cond_true,uN (show i<1000000000 by omega),g0,g1,aB,oR hx ok1,h,decide_true,sw]
    rw [aX r,aCj hx x0 (i / 2) _ _ (c.move hi hp _ _) hp (by rw [List.length_set];exact x1) (by rw [List.length_set];exact l1) (by rw [List.length_set];exact l2)]
    have e:jM x (i+1) H W=jM x (i / 2) (H.set (i+1) H[i / 2]!) (W.set (H[i / 2]!).n ((i+1:Nat):Int)):=by
     rw [jM,if_pos h]
    rw [e]
  · refine aL ?_
    unfold iC;have e:jM x (i+1) H W=(i+1,H,W):=by rw [jM,if_neg h]
    rw [e];simp only [e1,cond_true,uN (show i<1000000000 by omega),g0,g1,aB,oR hx ok1,h,decide_false,cond_false,List.length_set,l1,l2,beq_self_eq_true]
termination_by i=>i
decreasing_by omega
theorem T6 {c0:List Int×List Bool×List Int×Nat×Nat×Int×List Ev×List Int} {n cap:Nat} {u fr:List Int} {us:List Bool} {x:Ev} (hx:sC x) (x0:0<=x.ix):
 ∀(d i:Nat) (H:List Ev) (W:List Int),n-i<=d->nJ n H W->i<n->x.ix<W.length->c0.2.2.2.2.2.2.1.length=H.length->c0.2.2.2.2.2.2.2.length=W.length->
  aH (kN c0) ((i:Int),H.set i x,W.set x.n (i:Int),u,us,fr,n,cap)=some (((dW n x i H W).2.1.set (dW n x i H W).1 x,(dW n x i H W).2.2.set x.n ((dW n x i H W).1:Int)))
 |0,i,H,W,hd,c,hi,x1,l1,l2=>by omega
 |d+1,i,H,W,hd,c,hi,x1,l1,l2=>by
  have hb:=c.hb;have hnn:=c.hn;have cell: ∀w,(H.set i x)[w]! =if w=i then x else H[w]!:=by
   intro w;rw [bG]
   by_cases e:w=i
   · rw [if_pos ⟨e,by omega⟩,if_pos e]
   · rw [if_neg (fun k=>e k.1),if_neg e]
  have len0:(H.set i x).length=H.length:=List.length_set;have body:kN c0 ((i:Int),H.set i x,W.set x.n (i:Int),u,us,fr,n,cap)=some (if 2*i+1<n/\dO H[iL n H i]! x then .next (((iL n H i:Nat):Int),(H.set i H[iL n H i]!).set (iL n H i) x,(W.set (H[iL n H i]!).n (i:Int)).set x.n ((iL n H i:Nat):Int),u,us,fr,n,cap) else .done ((H.set i x,W.set x.n (i:Int)))):=by
   have k1:=yX (show i<1000000000 by omega)
   unfold kN
   by_cases h1:2*i+1<n
   · have e1:decide ((n:Int)<=((2*i+1:Nat):Int))=false:=decide_eq_false (by omega)
     have e2:aA .i64 (((2*i+1:Nat):Int)+1)=((2*i+2:Nat):Int):=bC (by omega)
     obtain ⟨ok1,a1,a2⟩:=c.ev (2*i+1) h1;have g0:aO ((H.set i x).take n) (i:Int)=some x:=by rw [gJ (by omega) (by rw [List.length_set];omega),cell,if_pos rfl]
     have g1:aO ((H.set i x).take n) ((2*i+1:Nat):Int)=some H[2*i+1]!:=by rw [gJ (by omega) (by rw [List.length_set];omega),cell,if_neg (by omega)]
     have s1:=M8 (cap:=cap) (u:=u) (us:=us) (fr:=fr) (x:=x) hi h1 (by omega) hnn x0 x1 a1 a2
     simp only [aF,k1,len0,e1,e2,cond_false,g0,g1,aB,oR ok1 hx,s1,List.length_set,l1,l2,beq_self_eq_true,cond_true]
     by_cases h2:2*i+2<n
     · have e3:decide (((2*i+2:Nat):Int)<(n:Int))=true:=decide_eq_true (by omega)
       obtain ⟨ok2,b1,b2⟩:=c.ev (2*i+2) h2;have g2:aO ((H.set i x).take n) ((2*i+2:Nat):Int)=some H[2*i+2]!:=by rw [gJ (by omega) (by rw [List.length_set];omega),cell,if_neg (by omega)]
       have s2:=M8 (cap:=cap) (u:=u) (us:=us) (fr:=fr) (x:=x) hi h2 (by omega) hnn x0 x1 b1 b2
       simp only [e3,cond_true,g2,aB,s2,oR ok2 hx,oR ok2 ok1]
       by_cases h3:dO H[2*i+2]! H[2*i+1]!
       · have k:iL n H i=2*i+2:=by unfold iL;rw [if_pos ⟨h2,h3⟩]
         rw [k]
         by_cases h4:dO H[2*i+2]! x
         · simp only [h1,h3,h4,decide_true,cond_true,cond_false,Bool.not_true,and_self,if_true]
         · simp only [h1,h3,h4,decide_true,decide_false,cond_true,Bool.not_false,and_false,if_false]
       · have k:iL n H i=2*i+1:=by unfold iL;rw [if_neg (fun h=>h3 h.2)]
         rw [k]
         by_cases h4:dO H[2*i+1]! x
         · simp only [h1,h3,h4,decide_true,decide_false,cond_false,Bool.not_true,and_self,if_true]
         · simp only [h1,h3,h4,decide_false,cond_true,cond_false,Bool.not_false,and_false,if_false]
     · have e3:decide (((2*i+2:Nat):Int)<(n:Int))=false:=decide_eq_false (by omega)
       have k:iL n H i=2*i+1:=by unfold iL;rw [if_neg (fun h=>h2 h.1)]
       rw [k];simp only [e3,cond_false]
       by_cases h4:dO H[2*i+1]! x
       · simp only [h1,h4,decide_true,cond_false,Bool.not_true,and_self,if_true]
       · simp only [h1,h4,decide_false,cond_true,Bool.not_false,and_false,if_false]
   · have e1:decide ((n:Int)<=((2*i+1:Nat):Int))=true:=decide_eq_true (by omega)
     rw [if_neg (fun h=>h1 h.1)]
     simp only [aF,k1,len0,e1,cond_true,List.length_set,l1,l2,beq_self_eq_true]
  by_cases h:2*i+1<n/\dO H[iL n H i]! x
  · rw [if_pos h] at body
    have kc:=pM n H i;have kn:iL n H i<n:=by omega
    rw [aX body,T6 hx x0 d (iL n H i) _ _ (by omega) (c.move hi kn _ _) kn (by rw [List.length_set];exact x1) (by rw [List.length_set];exact l1) (by rw [List.length_set];exact l2)]
    have e:dW n x i H W=dW n x (iL n H i) (H.set i H[iL n H i]!) (W.set (H[iL n H i]!).n (i:Int)):=by
     rw [dW,dif_pos h.1,if_pos h.2]
    rw [e]
  · rw [if_neg h] at body
    rw [aL body];have e:dW n x i H W=(i,H,W):=by
     rw [dW];split
     · rename_i h1;rw [if_neg (fun k=>h ⟨h1,k⟩)]
     · rfl
    rw [e]
theorem HK {n:Nat} {H:List Ev} {W:List Int} {x:Ev} {u fr:List Int} {us:List Bool} {i k:Nat} (hi:i<n) (hk:k<n) (hik:k≠i) (hn:n=H.length) (x0:0<=x.ix) (x1:x.ix<W.length) (k0:0<=(H[k]!).ix) (k1:(H[k]!).ix<W.length):
 gT ((i:Int),(k:Int),u,us,fr,H.set i x,W.set x.n (i:Int))=some (u,us,fr,(H.set i H[k]!).set k x,(W.set (H[k]!).n (i:Int)).set x.n (k:Int)):=by
 have cell: ∀w,(H.set i x)[w]! =if w=i then x else H[w]!:=by
  intro w;rw [bG]
  by_cases e:w=i
  · rw [if_pos ⟨e,by omega⟩,if_pos e]
  · rw [if_neg (fun k=>e k.1),if_neg e]
 have sh:((H.set i x).set i H[k]!).set k x=(H.set i H[k]!).set k x:=by rw [List.set_set]
 have sw:((W.set x.n (i:Int)).set (H[k]!).n (i:Int)).set x.n (k:Int)=(W.set (H[k]!).n (i:Int)).set x.n (k:Int):=by
  by_cases e:x.n=(H[k]!).n
  · simp only [e,List.set_set]
  · rw [List.set_comm _ _ (fun h=>e h),List.set_set]
 have g1:aO ((H.set i x)) (k:Int)=some H[k]!:=by rw [aC _ _ (by rw [List.length_set];omega),cell,if_neg hik]
 have g2:aO ((H.set i x)) (i:Int)=some x:=by rw [aC _ _ (by rw [List.length_set];omega),cell,if_pos rfl]
 have g3:aO (((H.set i x).set i H[k]!)) (k:Int)=some H[k]!:=by rw [aC _ _ (by rw [List.length_set,List.length_set];omega),bG,if_neg (fun h=>hik h.1),cell,if_neg hik]
 have g4:aO (((H.set i H[k]!).set k x)) (i:Int)=some H[k]!:=by rw [aC _ _ (by rw [List.length_set,List.length_set];omega),bG,if_neg (fun h=>hik h.1.symm),bG,if_pos ⟨rfl,by omega⟩]
 have g5:aO (((H.set i H[k]!).set k x)) (k:Int)=some x:=by rw [aC _ _ (by rw [List.length_set,List.length_set];omega),bG,if_pos ⟨rfl,by rw [List.length_set];omega⟩]
 have w6:=dM (l:=W.set x.n (i:Int)) k0 (by rw [List.length_set];exact k1)
 have w7:=dM (l:=(W.set x.n (i:Int)).set (H[k]!).n (i:Int)) x0 (by rw [List.length_set,List.length_set];exact x1)
 have q1: ∀(l:List Int) (a:Int) (y:Ev),bZ l y.2.2.2.1 a=l.set y.n a:=fun _ _ _=>rfl
 unfold gT;simp only [mH,g1,g2,g3,aB,sh,g4,g5,q1,w6,w7,sw,List.length_set,beq_self_eq_true,cond_true]
theorem aCk {c0:Int×List Int×List Bool×List Int×List Ev×List Int} {n:Nat} {u fr:List Int} {us:List Bool} {x:Ev} (hx:sC x) (x0:0<=x.ix) (l3:c0.2.1.length=u.length) (l4:c0.2.2.1.length=us.length) (l5:c0.2.2.2.1.length=fr.length):
 ∀(i:Nat) (H:List Ev) (W:List Int),nJ n H W->i<n->H.length=n->x.ix<W.length->c0.2.2.2.2.1.length=H.length->c0.2.2.2.2.2.length=W.length->
  aH (iD c0) ((i:Int),u,us,fr,H.set i x,W.set x.n (i:Int))=some (((jM x i H W).1:Int),u,us,fr,(jM x i H W).2.1.set (jM x i H W).1 x,(jM x i H W).2.2.set x.n ((jM x i H W).1:Int))
 |0,H,W,c,hi,hln,x1,l1,l2=>by
  have hnn:=c.hn;refine aL ?_;unfold iD;have e1:decide ((0:Int)<((0:Nat):Int))=false:=by simp
  rw [jM];simp only [e1,cond_false,List.length_set,l1,l2,l3,l4,l5,beq_self_eq_true,cond_true]
 |i+1,H,W,c,hi,hln,x1,l1,l2=>by
  have hb:=c.hb;have hnn:=c.hn;have e1:decide ((0:Int)<((i+1:Nat):Int))=true:=decide_eq_true (by omega)
  have hp:i / 2<n:=by omega
  have hne:i / 2≠i+1:=by omega
  obtain ⟨ok1,a1,a2⟩:=c.ev (i / 2) hp;have cell: ∀w,(H.set (i+1) x)[w]! =if w=i+1 then x else H[w]!:=by
   intro w;rw [bG]
   by_cases e:w=i+1
   · rw [if_pos ⟨e,by omega⟩,if_pos e]
   · rw [if_neg (fun k=>e k.1),if_neg e]
  have g0:aO ((H.set (i+1) x)) ((i+1:Nat):Int)=some x:=by rw [aC _ _ (by rw [List.length_set];omega),cell,if_pos rfl]
  have g1:aO ((H.set (i+1) x)) ((i / 2:Nat):Int)=some H[i / 2]!:=by rw [aC _ _ (by rw [List.length_set];omega),cell,if_neg hne]
  by_cases h:dO x H[i / 2]!
  · have sw:=HK (u:=u) (us:=us) (fr:=fr) (x:=x) hi hp hne hln.symm x0 x1 a1 a2
    have r:iD c0 (((i+1:Nat):Int),u,us,fr,H.set (i+1) x,W.set x.n ((i+1:Nat):Int))=some (.next (((i / 2:Nat):Int),u,us,fr,(H.set (i+1) H[i / 2]!).set (i / 2) x,(W.set (H[i / 2]!).n ((i+1:Nat):Int)).set x.n ((i / 2:Nat):Int))):=by
     unfold iD;simp only [e1,cond_true,uN (show i<1000000000 by omega),g0,g1,aB,oR hx ok1,h,decide_true,sw]
    rw [aX r,aCk hx x0 l3 l4 l5 (i / 2) _ _ (c.move hi hp _ _) hp (by rw [List.length_set];exact hln) (by rw [List.length_set];exact x1) (by rw [List.length_set];exact l1) (by rw [List.length_set];exact l2)]
    have e:jM x (i+1) H W=jM x (i / 2) (H.set (i+1) H[i / 2]!) (W.set (H[i / 2]!).n ((i+1:Nat):Int)):=by
     rw [jM,if_pos h]
    rw [e]
  · refine aL ?_
    unfold iD;have e:jM x (i+1) H W=(i+1,H,W):=by rw [jM,if_neg h]
    rw [e];simp only [e1,cond_true,uN (show i<1000000000 by omega),g0,g1,aB,oR hx ok1,h,decide_false,cond_false,List.length_set,l1,l2,l3,l4,l5,beq_self_eq_true]
termination_by i=>i
decreasing_by omega
theorem T7 {c0:Int×List Int×List Bool×List Int×List Ev×List Int} {n:Nat} {u fr:List Int} {us:List Bool} {x:Ev} (hx:sC x) (x0:0<=x.ix) (l3:c0.2.1.length=u.length) (l4:c0.2.2.1.length=us.length) (l5:c0.2.2.2.1.length=fr.length):
 ∀(d i:Nat) (H:List Ev) (W:List Int),n-i<=d->nJ n H W->i<n->H.length=n->x.ix<W.length->c0.2.2.2.2.1.length=H.length->c0.2.2.2.2.2.length=W.length->
  aH (kO c0) ((i:Int),u,us,fr,H.set i x,W.set x.n (i:Int))=some ((u,us,fr,(dW n x i H W).2.1.set (dW n x i H W).1 x,(dW n x i H W).2.2.set x.n ((dW n x i H W).1:Int)))
 |0,i,H,W,hd,c,hi,hln,x1,l1,l2=>by omega
 |d+1,i,H,W,hd,c,hi,hln,x1,l1,l2=>by
  have hb:=c.hb;have hnn:=c.hn;have cell: ∀w,(H.set i x)[w]! =if w=i then x else H[w]!:=by
   intro w;rw [bG]
   by_cases e:w=i
   · rw [if_pos ⟨e,by omega⟩,if_pos e]
   · rw [if_neg (fun k=>e k.1),if_neg e]
  have len0:(H.set i x).length=H.length:=List.length_set;have body:kO c0 ((i:Int),u,us,fr,H.set i x,W.set x.n (i:Int))=some (if 2*i+1<n/\dO H[iL n H i]! x then .next (((iL n H i:Nat):Int),u,us,fr,(H.set i H[iL n H i]!).set (iL n H i) x,(W.set (H[iL n H i]!).n (i:Int)).set x.n ((iL n H i:Nat):Int)) else .done ((u,us,fr,H.set i x,W.set x.n (i:Int)))):=by
   have k1:=yX (show i<1000000000 by omega)
   unfold kO
   by_cases h1:2*i+1<n
   · have e1:decide ((n:Int)<=((2*i+1:Nat):Int))=false:=decide_eq_false (by omega)
     have e2:aA .i64 (((2*i+1:Nat):Int)+1)=((2*i+2:Nat):Int):=bC (by omega)
     obtain ⟨ok1,a1,a2⟩:=c.ev (2*i+1) h1;have g0:aO ((H.set i x)) (i:Int)=some x:=by rw [aC _ _ (by rw [List.length_set];omega),cell,if_pos rfl]
     have g1:aO ((H.set i x)) ((2*i+1:Nat):Int)=some H[2*i+1]!:=by rw [aC _ _ (by rw [List.length_set];omega),cell,if_neg (by omega)]
     have s1:=HK (u:=u) (us:=us) (fr:=fr) (x:=x) hi h1 (by omega) hln.symm x0 x1 a1 a2
     simp only [aF,k1,len0,hln,e1,e2,cond_false,g0,g1,aB,oR ok1 hx,s1,List.length_set,l1,l2,l3,l4,l5,beq_self_eq_true,cond_true]
     by_cases h2:2*i+2<n
     · have e3:decide (((2*i+2:Nat):Int)<(n:Int))=true:=decide_eq_true (by omega)
       obtain ⟨ok2,b1,b2⟩:=c.ev (2*i+2) h2;have g2:aO ((H.set i x)) ((2*i+2:Nat):Int)=some H[2*i+2]!:=by rw [aC _ _ (by rw [List.length_set];omega),cell,if_neg (by omega)]
       have s2:=HK (u:=u) (us:=us) (fr:=fr) (x:=x) hi h2 (by omega) hln.symm x0 x1 b1 b2
       simp only [e3,cond_true,g2,aB,s2,oR ok2 hx,oR ok2 ok1]
       by_cases h3:dO H[2*i+2]! H[2*i+1]!
       · have k:iL n H i=2*i+2:=by unfold iL;rw [if_pos ⟨h2,h3⟩]
         rw [k]
         by_cases h4:dO H[2*i+2]! x
         · simp only [h1,h3,h4,decide_true,cond_true,cond_false,Bool.not_true,and_self,if_true]
         · simp only [h1,h3,h4,decide_true,decide_false,cond_true,Bool.not_false,and_false,if_false]
       · have k:iL n H i=2*i+1:=by unfold iL;rw [if_neg (fun h=>h3 h.2)]
         rw [k]
         by_cases h4:dO H[2*i+1]! x
         · simp only [h1,h3,h4,decide_true,decide_false,cond_false,Bool.not_true,and_self,if_true]
         · simp only [h1,h3,h4,decide_false,cond_true,cond_false,Bool.not_false,and_false,if_false]
     · have e3:decide (((2*i+2:Nat):Int)<(n:Int))=false:=decide_eq_false (by omega)
       have k:iL n H i=2*i+1:=by unfold iL;rw [if_neg (fun h=>h2 h.1)]
       rw [k];simp only [e3,cond_false]
       by_cases h4:dO H[2*i+1]! x
       · simp only [h1,h4,decide_true,cond_false,Bool.not_true,and_self,if_true]
       · simp only [h1,h4,decide_false,cond_true,Bool.not_false,and_false,if_false]
   · have e1:decide ((n:Int)<=((2*i+1:Nat):Int))=true:=decide_eq_true (by omega)
     rw [if_neg (fun h=>h1 h.1)]
     simp only [aF,k1,len0,hln,e1,cond_true,List.length_set,l1,l2,l3,l4,l5,beq_self_eq_true]
  by_cases h:2*i+1<n/\dO H[iL n H i]! x
  · rw [if_pos h] at body
    have kc:=pM n H i;have kn:iL n H i<n:=by omega
    rw [aX body,T7 hx x0 l3 l4 l5 d (iL n H i) _ _ (by omega) (c.move hi kn _ _) kn (by rw [List.length_set];exact hln) (by rw [List.length_set];exact x1) (by rw [List.length_set];exact l1) (by rw [List.length_set];exact l2)]
    have e:dW n x i H W=dW n x (iL n H i) (H.set i H[iL n H i]!) (W.set (H[iL n H i]!).n (i:Int)):=by
     rw [dW,dif_pos h.1,if_pos h.2]
    rw [e]
  · rw [if_neg h] at body
    rw [aL body];have e:dW n x i H W=(i,H,W):=by
     rw [dW];split
     · rename_i h1;rw [if_neg (fun k=>h ⟨h1,k⟩)]
     · rfl
    rw [e]
theorem aCl {n:Nat} {H:List Ev} {W:List Int} {x:Ev} {u fr:List Int} {us:List Bool} {i k:Nat} (hi:i<n) (hk:k<n) (hik:k≠i) (hn:n=H.length) (x0:0<=x.ix) (x1:x.ix<W.length) (k0:0<=(H[k]!).ix) (k1:(H[k]!).ix<W.length):
 sA (u,us,fr,(i:Int),(k:Int),H.set i x,W.set x.n (i:Int))=some ((H.set i H[k]!).set k x,(W.set (H[k]!).n (i:Int)).set x.n (k:Int)):=by
 have cell: ∀w,(H.set i x)[w]! =if w=i then x else H[w]!:=by
  intro w;rw [bG]
  by_cases e:w=i
  · rw [if_pos ⟨e,by omega⟩,if_pos e]
  · rw [if_neg (fun k=>e k.1),if_neg e]
 have sh:((H.set i x).set i H[k]!).set k x=(H.set i H[k]!).set k x:=by rw [List.set_set]
 have sw:((W.set x.n (i:Int)).set (H[k]!).n (i:Int)).set x.n (k:Int)=(W.set (H[k]!).n (i:Int)).set x.n (k:Int):=by
  by_cases e:x.n=(H[k]!).n
  · simp only [e,List.set_set]
  · rw [List.set_comm _ _ (fun h=>e h),List.set_set]
 have g1:aO ((H.set i x)) (k:Int)=some H[k]!:=by rw [aC _ _ (by rw [List.length_set];omega),cell,if_neg hik]
 have g2:aO ((H.set i x)) (i:Int)=some x:=by rw [aC _ _ (by rw [List.length_set];omega),cell,if_pos rfl]
 have g3:aO (((H.set i x).set i H[k]!)) (k:Int)=some H[k]!:=by rw [aC _ _ (by rw [List.length_set,List.length_set];omega),bG,if_neg (fun h=>hik h.1),cell,if_neg hik]
 have g4:aO (((H.set i H[k]!).set k x)) (i:Int)=some H[k]!:=by rw [aC _ _ (by rw [List.length_set,List.length_set];omega),bG,if_neg (fun h=>hik h.1.symm),bG,if_pos ⟨rfl,by omega⟩]
 have g5:aO (((H.set i H[k]!).set k x)) (k:Int)=some x:=by rw [aC _ _ (by rw [List.length_set,List.length_set];omega),bG,if_pos ⟨rfl,by rw [List.length_set];omega⟩]
 have w6:=dM (l:=W.set x.n (i:Int)) k0 (by rw [List.length_set];exact k1)
 have w7:=dM (l:=(W.set x.n (i:Int)).set (H[k]!).n (i:Int)) x0 (by rw [List.length_set,List.length_set];exact x1)
 have q1: ∀(l:List Int) (a:Int) (y:Ev),bZ l y.2.2.2.1 a=l.set y.n a:=fun _ _ _=>rfl
 unfold sA;simp only [mH,g1,g2,g3,aB,sh,g4,g5,q1,w6,w7,sw,List.length_set,beq_self_eq_true,cond_true]
theorem aCm {c0:List Int×List Bool×List Int×Int×List Ev×List Int} {n:Nat} {u fr:List Int} {us:List Bool} {x:Ev} (hx:sC x) (x0:0<=x.ix):
 ∀(i:Nat) (H:List Ev) (W:List Int),nJ n H W->i<n->H.length=n->x.ix<W.length->c0.2.2.2.2.1.length=H.length->c0.2.2.2.2.2.length=W.length->
  aH (iE c0) ((i:Int),H.set i x,W.set x.n (i:Int),u,us,fr)=some (((jM x i H W).1:Int),(jM x i H W).2.1.set (jM x i H W).1 x,(jM x i H W).2.2.set x.n ((jM x i H W).1:Int))
 |0,H,W,c,hi,hln,x1,l1,l2=>by
  have hnn:=c.hn;refine aL ?_;unfold iE;have e1:decide ((0:Int)<((0:Nat):Int))=false:=by simp
  rw [jM];simp only [e1,cond_false,List.length_set,l1,l2,beq_self_eq_true,cond_true]
 |i+1,H,W,c,hi,hln,x1,l1,l2=>by
  have hb:=c.hb;have hnn:=c.hn;have e1:decide ((0:Int)<((i+1:Nat):Int))=true:=decide_eq_true (by omega)
  have hp:i / 2<n:=by omega
  have hne:i / 2≠i+1:=by omega
  obtain ⟨ok1,a1,a2⟩:=c.ev (i / 2) hp;have cell: ∀w,(H.set (i+1) x)[w]! =if w=i+1 then x else H[w]!:=by
   intro w;rw [bG]
   by_cases e:w=i+1
   · rw [if_pos ⟨e,by omega⟩,if_pos e]
   · rw [if_neg (fun k=>e k.1),if_neg e]
  have g0:aO ((H.set (i+1) x)) ((i+1:Nat):Int)=some x:=by rw [aC _ _ (by rw [List.length_set];omega),cell,if_pos rfl]
  have g1:aO ((H.set (i+1) x)) ((i / 2:Nat):Int)=some H[i / 2]!:=by rw [aC _ _ (by rw [List.length_set];omega),cell,if_neg hne]
  by_cases h:dO x H[i / 2]!
  · have sw:=aCl (u:=u) (us:=us) (fr:=fr) (x:=x) hi hp hne hln.symm x0 x1 a1 a2
    have r:iE c0 (((i+1:Nat):Int),H.set (i+1) x,W.set x.n ((i+1:Nat):Int),u,us,fr)=some (.next (((i / 2:Nat):Int),(H.set (i+1) H[i / 2]!).set (i / 2) x,(W.set (H[i / 2]!).n ((i+1:Nat):Int)).set x.n ((i / 2:Nat):Int),u,us,fr)):=by
     unfold iE;simp only [e1,cond_true,uN (show i<1000000000 by omega),g0,g1,aB,oR hx ok1,h,decide_true,sw]
    rw [aX r,aCm hx x0 (i / 2) _ _ (c.move hi hp _ _) hp (by rw [List.length_set];exact hln) (by rw [List.length_set];exact x1) (by rw [List.length_set];exact l1) (by rw [List.length_set];exact l2)]
    have e:jM x (i+1) H W=jM x (i / 2) (H.set (i+1) H[i / 2]!) (W.set (H[i / 2]!).n ((i+1:Nat):Int)):=by
     rw [jM,if_pos h]
    rw [e]
  · refine aL ?_
    unfold iE;have e:jM x (i+1) H W=(i+1,H,W):=by rw [jM,if_neg h]
    rw [e];simp only [e1,cond_true,uN (show i<1000000000 by omega),g0,g1,aB,oR hx ok1,h,decide_false,cond_false,List.length_set,l1,l2,beq_self_eq_true]
termination_by i=>i
decreasing_by omega
end Go.Proofs.YthljmpcakagceaaGreat
namespace Go.Proofs.YthljmpcakagceaaGreat
open Go.Vm Classical
theorem aI {p:Prop} [Decidable p] (h: ¬p):decide p=false:=decide_eq_false h
theorem aM {p:Prop} [Decidable p] (h:p):decide p=true:=decide_eq_true h
theorem T8 (uses:List Int) (used:List Bool) (fr:List Int) (fl:List Bool) (h1:uses.length<=200) (h2:used.length=uses.length) (h3:fl.length=uses.length):
 ((∀i,i<uses.length->0<=uses[i]!/\uses[i]!<=1000000/\used[i]!≠fl[i]!/\(used[i]! =true->1<=uses[i]!))->aH lC ((uses.length:Int),0,uses,used,fr,fl)=some (.done 0))/\
 (¬(∀i,i<uses.length->0<=uses[i]!/\uses[i]!<=1000000/\used[i]!≠fl[i]!/\(used[i]! =true->1<=uses[i]!))->aH lC ((uses.length:Int),0,uses,used,fr,fl)=some (.done 8)):=by
 have key:=dC (body:=lC) (fun i=>((uses.length:Int),(i:Int),uses,used,fr,fl)) uses.length (fun i=> ¬(0<=uses[i]!/\uses[i]!<=1000000/\used[i]!≠fl[i]!/\(used[i]! =true->1<=uses[i]!))) (r:= .done 8) (e:= .done 0) (fun i hi=>by
  have e1:decide ((i:Int)<(uses.length:Int))=true:=aM (by omega)
  unfold lC;simp only [e1,cond_true,aC uses i hi,aC used i (by omega),aC fl i (by omega),aB,bC (show i<1000000000 by omega)]
  generalize uses[i]! =u;generalize used[i]! =a;generalize fl[i]! =b
  by_cases a1:u<0
  · simp only [a1,decide_true,cond_true];exact ⟨fun _=>trivial,fun h=>absurd (Classical.not_not.1 h).1 (by omega)⟩
  · by_cases a2:1000000<u
    · simp only [a1,a2,decide_true,decide_false,cond_true,cond_false];exact ⟨fun _=>trivial,fun h=>absurd (Classical.not_not.1 h).2.1 (by omega)⟩
    · simp only [a1,a2,decide_false,cond_false]
      by_cases a3:u<1
      · cases a<;>cases b<;>simp [a3]<;>omega
      · cases a<;>cases b<;>simp [a3]<;>omega) (by
  unfold lC
  have:decide ((uses.length:Int)<(uses.length:Int))=false:=aI (by omega)
  simp only [this,cond_false])
 constructor
 · intro h
   exact key.2 fun i hi=>Classical.not_not.2 (h i hi)
 · intro h
   obtain ⟨i,h⟩:=Classical.not_forall.1 h;obtain ⟨hi,hx⟩:=Classical.not_imp.1 h;exact key.1 ⟨i,hi,hx⟩
theorem aCn {α:Type} {n:Nat} (z:α) (h:n<=1048576):B2 (n:Int) z=some (List.replicate n z):=by
 unfold B2;rw [if_pos ⟨by omega,by omega⟩]
 simp
theorem M9 (s:aR) (hf:s.free.length<=1000000):xR s=some (if fF s then 0 else 8):=by
 obtain ⟨uses,used,fr⟩:=s;dsimp only at hf;unfold xR;simp only [aF]
 by_cases a1:uses.length<1
 · have e:decide ((uses.length:Int)<1)=true:=aM (by omega)
   rw [e,if_neg (fun h=>by have:=h.n1;dsimp only at this;omega)];rfl
 have e1:decide ((uses.length:Int)<1)=false:=aI (by omega)
 by_cases a2:200<uses.length
 · have e:decide (200<(uses.length:Int))=true:=aM (by omega)
   rw [e1,e,if_neg (fun h=>by have:=h.n2;dsimp only at this;omega)];rfl
 have e2:decide (200<(uses.length:Int))=false:=aI (by omega)
 by_cases a3:used.length=uses.length
 case neg=>
  have e:((used.length:Int) !=(uses.length:Int))=true:=fE (by omega)
  rw [e1,e2,e,if_neg (fun h=>a3 h.ul)];rfl
 have e3:((used.length:Int) !=(uses.length:Int))=false:=dR (by omega)
 by_cases a4:uses.length<fr.length
 · have e:decide ((uses.length:Int)<(fr.length:Int))=true:=aM (by omega)
   rw [e1,e2,e3,e,if_neg (fun h=>by have:=h.fl;dsimp only at this;omega)];rfl
 have e4:decide ((uses.length:Int)<(fr.length:Int))=false:=aI (by omega)
 simp only [e1,e2,e3,e4,cond_false,beq_self_eq_true,cond_true,aCn false (show uses.length<=1048576 by omega),aB]
 have ml: ∀k,(fS (List.replicate uses.length false) (fr.take k)).length=uses.length:=fun k=>by rw [nU,List.length_replicate]
 have ml':(fS (List.replicate uses.length false) fr).length=uses.length:=by rw [nU,List.length_replicate]
 have rep: ∀i:Nat,(List.replicate uses.length false)[i]! =false:=by
  intro i
  by_cases h:i<uses.length
  · rw [getElem!_pos _ i (by simpa using h),List.getElem_replicate]
  · rw [getElem!_neg _ i (by simpa using h)];rfl
 have inner:=T8 uses used fr (fS (List.replicate uses.length false) fr) (by omega) a3 ml'
 have key:=dC (body:=qK) (fun k=>((uses.length:Int),(k:Int),uses,used,fr,fS (List.replicate uses.length false) (fr.take k))) fr.length
  (fun k=>fr[k]!<0\/(uses.length:Int)<=fr[k]!\/(fS (List.replicate uses.length false) (fr.take k))[(fr[k]!).toNat]! =true) (r:=8)
  (e:=if (∀i,i<uses.length->0<=uses[i]!/\uses[i]!<=1000000/\used[i]!≠(fS (List.replicate uses.length false) fr)[i]!/\(used[i]! =true->1<=uses[i]!)) then 0 else 8) (fun k hk=>by
   have f1:decide ((k:Int)<(fr.length:Int))=true:=aM (by omega)
   have f5:fS (List.replicate uses.length false) (fr.take (k+1))=bZ (fS (List.replicate uses.length false) (fr.take k)) fr[k]! true:=by rw [jL hk,F6]
   unfold qK;simp only [aF,f1,cond_true,aC fr k hk,aB,bC (show k<1000000000 by omega),f5]
   clear f5;generalize fr[k]! =x
   by_cases b1:x<0
   · simp [b1]
   · by_cases b2:(uses.length:Int)<=x
     · simp [b1,b2]
     · simp only [b1,b2,decide_false,cond_false,false_or]
       rw [dM (l:=fS (List.replicate uses.length false) (fr.take k)) (i:=x) (by omega) (by rw [ml];omega)]
       simp only [aB];cases (fS (List.replicate uses.length false) (fr.take k))[x.toNat]!<;>simp) (by
   have f1:decide ((fr.length:Int)<(fr.length:Int))=false:=aI (by omega)
   unfold qK;simp only [aF,f1,cond_false,List.take_length]
   by_cases hx:(∀i,i<uses.length->0<=uses[i]!/\uses[i]!<=1000000/\used[i]!≠(fS (List.replicate uses.length false) fr)[i]!/\(used[i]! =true->1<=uses[i]!))
   · rw [if_pos hx];exact inner.1 hx
   · rw [if_neg hx];exact inner.2 hx)
 have h0:fS (List.replicate uses.length false) (fr.take 0)=List.replicate uses.length false:=rfl;rw [show ((0:Nat):Int)=0 from rfl,h0] at key
 by_cases bad: ∃k,k<fr.length/\(fr[k]!<0\/(uses.length:Int)<=fr[k]!\/(fS (List.replicate uses.length false) (fr.take k))[(fr[k]!).toNat]! =true)
 · rw [key.1 bad,if_neg]
   intro ok;obtain ⟨k,hk,hb⟩:=bad;have hr:=ok.fr fr[k]! (bB hk);dsimp only at hr;rcases hb with hb|hb|hb
   · omega
   · omega
   · rw [pL _ _ _ (fun x hx=>(ok.fr x (List.mem_of_mem_take hx)).1) (by rw [List.length_replicate];omega),rep,Bool.false_or] at hb
     have hi:((fr[k]!).toNat:Int)=fr[k]!:=by omega
     rw [hi] at hb;have hm:fr[k]!∈fr.take k:=of_decide_eq_true hb;obtain ⟨j,h1,h2,h3⟩:=cL.1 hm;exact gG.1 ok.fd j k h1 hk h3
 · have good: ∀k,k<fr.length->0<=fr[k]!/\fr[k]!<uses.length/\(fS (List.replicate uses.length false) (fr.take k))[(fr[k]!).toNat]! =false:=by
    intro k hk;refine ⟨?_,?_,?_⟩
    · exact Int.not_lt.1 fun h=>bad ⟨k,hk,.inl h⟩
    · exact Int.not_le.1 fun h=>bad ⟨k,hk,.inr (.inl h)⟩
    · exact Bool.not_eq_true _▸fun h=>bad ⟨k,hk,.inr (.inr h)⟩
   rw [key.2 fun k hk hb=>bad ⟨k,hk,hb⟩]
   have rng: ∀x∈fr,0<=x/\x<(uses.length:Int):=by
    intro x hx;obtain ⟨k,hk,rfl⟩:=aY.1 hx;exact ⟨(good k hk).1,(good k hk).2.1⟩
   have g2: ∀k,k<fr.length->fr[k]!∉fr.take k:=by
    intro k hk;obtain ⟨c1,c2,c3⟩:=good k hk;rw [pL _ _ _ (fun x hx=>(rng x (List.mem_of_mem_take hx)).1) (by rw [List.length_replicate];omega),show ((fr[k]!).toNat:Int)=fr[k]! by omega,rep,Bool.false_or] at c3
    exact of_decide_eq_false c3
   have nd:fr.Nodup:=gG.2 fun i j hij hj he=>g2 j hj (cL.2 ⟨i,hij,by omega,he⟩)
   have fl: ∀i,i<uses.length->(fS (List.replicate uses.length false) fr)[i]! =decide ((i:Int)∈fr):=by
    intro i hi;rw [pL _ _ _ (fun x hx=>(rng x hx).1) (by rw [List.length_replicate];omega),rep,Bool.false_or]
   by_cases hx:(∀i,i<uses.length->0<=uses[i]!/\uses[i]!<=1000000/\used[i]!≠(fS (List.replicate uses.length false) fr)[i]!/\(used[i]! =true->1<=uses[i]!))
   · rw [if_pos hx,if_pos]
     refine ⟨by show 1<=uses.length;omega,by show uses.length<=200;omega,a3,rng,nd,fun i hi=>?_,fun i hi=>?_⟩
     · have:=(hx i hi).2.2.1
       rw [fl i hi] at this;dsimp only;cases h:used[i]! with
       |true=>
        rw [h] at this;refine ⟨fun _ hm=>?_,fun _=>rfl⟩
        rw [aM hm] at this;exact this rfl
       |false=>
        rw [h] at this;refine ⟨fun h=>(by cases h),fun hm=>?_⟩
        rw [aI hm] at this;exact absurd rfl this
     · have:=hx i hi
       exact ⟨this.1,this.2.1,this.2.2.2⟩
   · rw [if_neg hx,if_neg]
     intro ok;refine hx fun i hi=>?_
     obtain ⟨u1,u2,u3⟩:=ok.us i hi;refine ⟨u1,u2,?_,u3⟩;rw [fl i hi]
     have:=ok.uf i hi
     dsimp only at this;intro he
     by_cases hm:(i:Int)∈fr
     · rw [aM hm] at he;exact (this.1 he) hm
     · rw [aI hm] at he
       have:=this.2 hm
       rw [he] at this;cases this
end Go.Proofs.YthljmpcakagceaaGreat
namespace Go.Proofs.YthljmpcakagceaaGreat
open Go.Vm Classical
structure DM (a:aG):Prop where
 fr:a.slots.free.length<=1000000
 hp:a.heap.length<=1000000
 wh:a.where_.length<=1000000
 at64: ∀w,w<a.heap.length->mU ((a.heap[w]!).1,(a.heap[w]!).2.1)
structure eZ (a:aG):Prop where
 so:fF a.slots
 wl:a.where_.length=a.slots.uses.length
 hl:a.heap.length+a.slots.free.length=a.slots.uses.length
 fwd: ∀i,i<a.slots.uses.length->a.slots.used[i]! =true->0<=a.where_[i]!/\a.where_[i]!<a.heap.length/\(Ev.ix a.heap[(a.where_[i]!).toNat]!)=i/\(a.heap[(a.where_[i]!).toNat]!).2.2.2.2=a.slots.uses[i]!
 un: ∀i,i<a.slots.uses.length->a.slots.used[i]! =false->a.where_[i]! = -1
 ev: ∀w,w<a.heap.length->sC a.heap[w]!
 nd: ∀v w,v<w->w<a.heap.length->(Ev.num a.heap[v]!)≠(Ev.num a.heap[w]!)
 ord: ∀k,0<k->k<a.heap.length-> ¬dO a.heap[k]! a.heap[(k-1) / 2]!
theorem aJ4: ∀(n:Nat) (l:List Nat),(∀x,x<n->x∈l)->n<=l.length
 |0,_,_=>Nat.zero_le _
 |n+1,l,h=>by
  have hn:=h n (by omega)
  have:=aJ4 n (l.erase n) (fun x hx=>by
   rw [List.mem_erase_of_ne (by omega)]
   exact h x (by omega))
  rw [List.length_erase_of_mem hn] at this
  have:=List.length_pos_of_mem hn
  omega
def O7 (s:aR):List Nat:=(List.range s.uses.length).filter fun i=>s.used[i]!
theorem EK {s:aR} {i:Nat}:i∈O7 s↔i<s.uses.length/\s.used[i]! =true:=by
 unfold O7;rw [List.mem_filter,List.mem_range]
theorem EL {α β:Type} {f:α->β}: ∀{l:List α},l.Nodup->(∀x∈l,∀y∈l,f x=f y->x=y)->(l.map f).Nodup
 | [],_,_=>by simp
 |a::l,h,hf=>by
  rw [List.nodup_cons] at h;rw [List.map_cons,List.nodup_cons];refine ⟨?_,EL h.2 fun x hx y hy=>hf x (by simp [hx]) y (by simp [hy])⟩
  intro hm;obtain ⟨b,hb,e⟩:=List.mem_map.1 hm
  have:=hf b (by simp [hb]) a (by simp) e
  subst this;exact h.1 hb
theorem eZ.back {a:aG} (ok:eZ a) {w:Nat} (hw:w<a.heap.length):0<=(Ev.ix a.heap[w]!)/\(Ev.ix a.heap[w]!)<a.slots.uses.length/\a.slots.used[(Ev.n a.heap[w]!)]! =true/\a.slots.uses[(Ev.n a.heap[w]!)]! =(a.heap[w]!).2.2.2.2/\a.where_[(Ev.n a.heap[w]!)]! =(w:Int):=by
 have so:=ok.so;have len:a.slots.uses.length<=(O7 a.slots).length+a.slots.free.length:=by
  have:=aJ4 a.slots.uses.length (O7 a.slots++a.slots.free.map Int.toNat) (fun x hx=>by
   rw [List.mem_append]
   by_cases hu:a.slots.used[x]! =true
   · exact .inl (EK.2 ⟨hx,hu⟩)
   · right
     have:=so.uf x hx
     have hm:(x:Int)∈a.slots.free:=Classical.byContradiction fun hc=>hu (this.2 hc)
     exact List.mem_map.2 ⟨_,hm,by omega⟩)
  rw [List.length_append,List.length_map] at this;exact this
 have f0: ∀i∈O7 a.slots,0<=a.where_[i]!/\a.where_[i]!<a.heap.length/\(Ev.ix a.heap[(a.where_[i]!).toNat]!)=i/\(a.heap[(a.where_[i]!).toNat]!).2.2.2.2=a.slots.uses[i]!:=fun i hi=>ok.fwd i (EK.1 hi).1 (EK.1 hi).2
 have full:=JW (n:=a.heap.length) (l:=(O7 a.slots).map fun i=>(a.where_[i]!).toNat) (by
  refine EL ?_ ?_
  · exact List.Pairwise.filter _ List.nodup_range
  · intro x hx y hy he
    have h1:=(f0 x hx).2.2.1;have h2:=(f0 y hy).2.2.1;rw [he] at h1
    omega) (by
  intro x hx;obtain ⟨i,hi,rfl⟩:=List.mem_map.1 hx
  have:=f0 i hi
  omega) (by
  rw [List.length_map]
  have:=ok.hl
  omega) w hw
 obtain ⟨i,hi,e⟩:=List.mem_map.1 full;obtain ⟨c1,c2,c3,c4⟩:=f0 i hi;obtain ⟨d1,d2⟩:=EK.1 hi;rw [e] at c3 c4;have hn:(Ev.n a.heap[w]!)=i:=by show ((Ev.ix a.heap[w]!)).toNat=i;omega
 rw [hn];refine ⟨by omega,by omega,d2,c4.symm,by omega⟩
noncomputable def WT (x y:Ev):Int:=if bM (x.1,x.2.1)/\bM (y.1,y.2.1) then M4 x y else kL x.2.2.1 y.2.2.1
theorem F8 {x y:Ev} (hx:mU (x.1,x.2.1)) (hy:mU (y.1,y.2.1)):cH x y=some (WT x y):=by
 unfold cH WT M4;rw [MV hx hy]
 by_cases h:bM (x.1,x.2.1)/\bM (y.1,y.2.1)
 · rw [if_pos h,if_pos h]
   simp only [aB,lI,EH]
 · rw [if_neg h,if_neg h]
   simp only [aB,lI,EH];simp
def NA (a:aG) (i:Nat):Prop:=(a.slots.used[i]! =true->0<=a.where_[i]!/\a.where_[i]!<a.heap.length/\(Ev.ix a.heap[(a.where_[i]!).toNat]!)=i/\(a.heap[(a.where_[i]!).toNat]!).2.2.2.2=a.slots.uses[i]!)/\(a.slots.used[i]! =false->a.where_[i]! = -1)
def N7 (H:List Ev) (k:Nat):Prop:=bM ((H[k]!).1,(H[k]!).2.1)/\0<=(H[k]!).2.2.1/\(H[k]!).2.2.1<=1000000/\(∀j,j<k->(H[j]!).2.2.1≠(H[k]!).2.2.1)/\(0<k-> ¬WT H[k]! H[(k-1) / 2]!<0)
theorem eZ.of {a:aG} (fit:DM a) (so:fF a.slots) (wl:a.where_.length=a.slots.uses.length) (hl:a.heap.length+a.slots.free.length=a.slots.uses.length) (wh: ∀i,i<a.slots.uses.length->NA a i) (hp: ∀k,k<a.heap.length->N7 a.heap k):eZ a:=by
 have ev: ∀w,w<a.heap.length->sC a.heap[w]!:=fun w hw=>⟨(hp w hw).1,fit.at64 w hw,(hp w hw).2.1,(hp w hw).2.2.1⟩
 refine ⟨so,wl,hl,fun i hi=>(wh i hi).1,fun i hi=>(wh i hi).2,ev,fun v w hv hw=>(hp w hw).2.2.2.1 v hv,fun k k0 hk=>?_⟩
 have:=(hp k hk).2.2.2.2 k0
 unfold WT at this;rw [if_pos ⟨(hp k hk).1,(hp ((k-1) / 2) (by omega)).1⟩,HJ] at this
 exact this
theorem eZ.to {a:aG} (ok:eZ a):(∀i,i<a.slots.uses.length->NA a i)/\(∀k,k<a.heap.length->N7 a.heap k):=by
 refine ⟨fun i hi=>⟨ok.fwd i hi,ok.un i hi⟩,fun k hk=>?_⟩
 have e:=ok.ev k hk;refine ⟨e.1,e.2.2.1,e.2.2.2,fun j hj=>ok.nd j k hj hk,fun k0=>?_⟩
 unfold WT;rw [if_pos ⟨e.1,(ok.ev ((k-1) / 2) (by omega)).1⟩,HJ]
 exact ok.ord k k0 hk
theorem O8 (H:List Ev) (k:Nat) (n:Int):pW [n] ((H.take k).map fun x=>[x.2.2.1])=true:=by
 unfold pW;rw [List.all_eq_true];intro x hx;obtain ⟨y,hy,rfl⟩:=List.mem_map.1 hx;rfl
theorem O9 (H:List Ev) (k:Nat) (n:Int):J9 ((H.take k).map fun x=>[x.2.2.1]) [n]=decide (∃j,j<k/\j<H.length/\(H[j]!).2.2.1=n):=by
 unfold J9;rw [Bool.eq_iff_iff,List.any_eq_true,decide_eq_true_iff];constructor
 · rintro ⟨x,hx,he⟩
   obtain ⟨y,hy,rfl⟩:=List.mem_map.1 hx;obtain ⟨j,h1,h2,rfl⟩:=cL.1 hy
   have:[n]=[(H[j]!).2.2.1]:=by simpa using he
   exact ⟨j,h1,h2,by injection this with h;exact h.symm⟩
 · rintro ⟨j,h1,h2,h3⟩
   refine ⟨[(H[j]!).2.2.1],List.mem_map.2 ⟨H[j]!,cL.2 ⟨j,h1,h2,rfl⟩,rfl⟩,?_⟩;rw [h3];simp
theorem Q4 (H:List Ev) (u fr W:List Int) (us:List Bool) (hl:H.length<=1000000) (r64: ∀w,w<H.length->mU ((H[w]!).1,(H[w]!).2.1)):
 ((∀k,k<H.length->N7 H k)->aH jQ (H,(H.length:Int),0,u,us,fr,H,W,[])=some (.done 0))/\(¬(∀k,k<H.length->N7 H k)->aH jQ (H,(H.length:Int),0,u,us,fr,H,W,[])=some (.done 8)):=by
 have key:=dC (body:=jQ) (fun k=>(H,(H.length:Int),(k:Int),u,us,fr,H,W,(H.take k).map fun x=>[x.2.2.1])) H.length (fun k=> ¬N7 H k) (r:= .done 8) (e:= .done 0) (fun k hk=>by
  have e1:decide ((k:Int)<(H.length:Int))=true:=aM (by omega)
  have ins: ∀n:Int,¬(∃j,j<k/\j<H.length/\(H[j]!).2.2.1=n)->SD ((H.take k).map fun x=>[x.2.2.1]) [n]=some (((H.take k).map fun x=>[x.2.2.1])++[[n]]):=by
   intro n hn;unfold SD VD;rw [O8,O9,aI hn];rfl
  have has: ∀n:Int,SC ((H.take k).map fun x=>[x.2.2.1]) [n]=some (decide (∃j,j<k/\j<H.length/\(H[j]!).2.2.1=n)):=by
   intro n;unfold SC;rw [O8,O9];rfl
  have nx:(H.take (k+1)).map (fun x=>[x.2.2.1])=((H.take k).map fun x=>[x.2.2.1])++[[(H[k]!).2.2.1]]:=by
   rw [jL hk,List.map_append];rfl
  unfold jQ;simp only [e1,cond_true,aC H k hk,aB,dU (r64 k hk),bC (show k<1000000000 by omega),has,nx]
  unfold N7
  by_cases b1:bM ((H[k]!).1,(H[k]!).2.1)
  case neg=>
   rw [if_neg b1];exact ⟨fun _=>rfl,fun h=>absurd (Classical.not_not.1 h).1 b1⟩
  rw [if_pos b1]
  by_cases b2:(H[k]!).2.2.1<0
  · rw [aM b2]
    exact ⟨fun _=>rfl,fun h=>absurd (Classical.not_not.1 h).2.1 (by omega)⟩
  by_cases b3:1000000<(H[k]!).2.2.1
  · rw [aI b2,aM b3]
    exact ⟨fun _=>rfl,fun h=>absurd (Classical.not_not.1 h).2.2.1 (by omega)⟩
  rw [aI b2,aI b3]
  by_cases b4: ∃j,j<k/\j<H.length/\(H[j]!).2.2.1=(H[k]!).2.2.1
  · rw [aM b4]
    refine ⟨fun _=>rfl,fun h=>?_⟩
    obtain ⟨j,j1,j2,j3⟩:=b4;exact absurd j3 ((Classical.not_not.1 h).2.2.2.1 j j1)
  rw [aI b4,ins _ b4];have b4': ∀j,j<k->(H[j]!).2.2.1≠(H[k]!).2.2.1:=fun j hj he=>b4 ⟨j,hj,by omega,he⟩
  simp only [show ((0:Int) !=0)=false from rfl,cond_false,aB]
  by_cases b5:0<k
  · obtain ⟨m,rfl⟩: ∃m,k=m+1:=⟨k-1,by omega⟩
    have f1:decide ((0:Int)<((m+1:Nat):Int))=true:=aM (by omega)
    simp only [f1,cond_true,uN (show m<1000000000 by omega),aC H (m / 2) (by omega),aB,F8 (r64 (m+1) hk) (r64 (m / 2) (by omega)),show (m+1-1) / 2=m / 2 by omega]
    by_cases b6:WT H[m+1]! H[m / 2]!<0
    · rw [aM b6]
      exact ⟨fun _=>rfl,fun h=>absurd b6 ((Classical.not_not.1 h).2.2.2.2 (by omega))⟩
    · rw [aI b6]
      exact ⟨fun h=>absurd ⟨b1,by omega,by omega,b4',fun _=>b6⟩ h,fun _=>rfl⟩
  · have f1:decide ((0:Int)<(k:Int))=false:=aI (by omega)
    rw [f1];exact ⟨fun h=>absurd ⟨b1,by omega,by omega,b4',fun h=>absurd h b5⟩ h,fun _=>rfl⟩) (by
  unfold jQ
  have:decide ((H.length:Int)<(H.length:Int))=false:=aI (by omega)
  simp only [this,cond_false])
 constructor
 · intro h
   exact key.2 fun i hi=>Classical.not_not.2 (h i hi)
 · intro h
   obtain ⟨i,h⟩:=Classical.not_forall.1 h;obtain ⟨hi,hx⟩:=Classical.not_imp.1 h;exact key.1 ⟨i,hi,hx⟩
end Go.Proofs.YthljmpcakagceaaGreat
