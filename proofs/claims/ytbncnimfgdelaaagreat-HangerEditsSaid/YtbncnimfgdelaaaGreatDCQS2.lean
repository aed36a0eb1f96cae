/- Plain functions for what the functions of the seat compute. Printed by a program. -/
import Derived.Test.YtbncnimfgdelaaaGreatDCVm3
import Derived.Test.YtbncnimfgdelaaaGreatDCQXT
import Derived.Test.YtbncnimfgdelaaaGreatDCQS1
set_option maxRecDepth 100000
namespace Go.Proofs.YtbncnimfgdelaaaGreat
open Go.Vm
noncomputable section
section
variable [LP]
def c38:bO:=⟨aC.cons (aL.agg bZ) (aC.one (aL.int .i64)),aL.tup (aC.cons (aL.agg bZ) (aC.one (aL.int .i64))),fun a=>kZ a.1 a.2,.frz,false⟩
theorem aCX:aM tab 38 c38:=aM.of aNz (cx:=(wS aH [(90,c90),(89,bO.clone eE)] [(91,aKa)] [] [])) rfl (qQ.make ⟨XN,vW,trivial⟩ ⟨aCW,trivial⟩ trivial) (fun a=>by kernel_rfl)
def tY (p0:Field) (p1:Int):Option (Field×Int):=(kZ p0 p1).bind fun a0=>some a0
def c81:bO:=⟨aC.cons (aL.agg bZ) (aC.one (aL.ref (cN.int .i64))),aL.tup (aC.cons (aL.agg bZ) (aC.one (aL.int .i64))),fun a=>tY a.1 a.2,.frz,false⟩
theorem aOZ:aM tab 81 c81:=Oc aN1 rfl aH [(38,c38)] ⟨aCX,trivial⟩ fun a=>by kernel_rfl
def fD (p0:bA) (p1:Int):Option (bA×Int):=(kN p0).bind fun n0=>bif n0 !=0 then some (bA.mk jB [],n0) else (tY p0.clock.field p1).bind fun a1=>bif a1.2 !=0 then some (bA.mk jB [],a1.2) else (dO p0.clock a1.1).bind fun a2=>some a2
def aCY:bO:=⟨aC.cons (aL.agg dX) (aC.one (aL.clo 81 (aC.one (aL.ref (cN.int .i64))))),aL.tup (aC.cons (aL.agg dX) (aC.one (aL.int .i64))),fun a=>fD a.1 a.2,.frz,false⟩
theorem aA7:aM tab 78 aCY:=Oc XG rfl aH [(19,c19),(81,c81),(54,c54)] ⟨NN,aOZ,NM,trivial⟩ fun a=>by kernel_rfl
def uY (p0:bA) (p1:Int):Option (bA×Int):=(fD p0 p1).bind fun a0=>some a0
def c32:bO:=⟨aC.cons (aL.agg dX) (aC.one (aL.int .i64)),aL.tup (aC.cons (aL.agg dX) (aC.one (aL.int .i64))),fun a=>uY a.1 a.2,.frz,false⟩
theorem aO0:aM tab 32 c32:=Oc aNv rfl aH [(78,aCY)] ⟨aA7,trivial⟩ fun a=>by kernel_rfl
def fN (p0:Field) (p1:Int×Int×Int):Option (Field×Int):=(dV p0).bind fun n0=>bif n0 !=0 then some (Field.mk [],n0) else (kE p1).bind fun n1=>bif n1 !=0 then some (Field.mk [],n1) else (kM p0 p1.1).bind fun a2=>bif a2.2 !=0 then some (Field.mk [],a2.2) else (bX p0.points).bind fun l3=>(aN l3 a2.1).bind fun _=>some (Field.mk (cH l3 a2.1 p1),0)
def c39:bO:=⟨aC.cons (aL.agg bZ) (aC.one (aL.agg (cN.row eE))),aL.tup (aC.cons (aL.agg bZ) (aC.one (aL.int .i64))),fun a=>fN a.1 a.2,.frz,false⟩
theorem aCZ:aM tab 39 c39:=Oc aNA rfl aH [(85,c85),(86,c86),(90,c90),(89,bO.clone eE)] ⟨GG,RH,XN,vW,trivial⟩ fun a=>by kernel_rfl
def pQ (p0:Field) (p1:Int×Int×Int):Option (Field×Int):=(fN p0 p1).bind fun a0=>some a0
def c83:bO:=⟨aC.cons (aL.agg bZ) (aC.one (aL.ref (cN.row eE))),aL.tup (aC.cons (aL.agg bZ) (aC.one (aL.int .i64))),fun a=>pQ a.1 a.2,.frz,false⟩
theorem aO1:aM tab 83 c83:=Oc aN2 rfl aH [(39,c39)] ⟨aCZ,trivial⟩ fun a=>by kernel_rfl
def eI (p0:bA) (p1:(Int×Int×Int)):Option (bA×Int):=(kN p0).bind fun n0=>bif n0 !=0 then some (bA.mk jB [],n0) else (pQ p0.clock.field p1).bind fun a1=>bif a1.2 !=0 then some (bA.mk jB [],a1.2) else (dO p0.clock a1.1).bind fun a2=>some a2
def aC0:bO:=⟨aC.cons (aL.agg dX) (aC.one (aL.clo 83 (aC.one (aL.ref (cN.row eE))))),aL.tup (aC.cons (aL.agg dX) (aC.one (aL.int .i64))),fun a=>eI a.1 a.2,.frz,false⟩
theorem aA8:aM tab 78 aC0:=Oc XG rfl aH [(19,c19),(83,c83),(54,c54)] ⟨NN,aO1,NM,trivial⟩ fun a=>by kernel_rfl
def nG (p0:bA) (p1:Int×Int×Int):Option (bA×Int):=(eI p0 p1).bind fun a0=>some a0
def c34:bO:=⟨aC.cons (aL.agg dX) (aC.one (aL.agg (cN.row eE))),aL.tup (aC.cons (aL.agg dX) (aC.one (aL.int .i64))),fun a=>nG a.1 a.2,.frz,false⟩
theorem aO2:aM tab 34 c34:=Oc aNw rfl aH [(78,aC0)] ⟨aA8,trivial⟩ fun a=>by kernel_rfl
def tZ (s:(Int×cQ×cQ)):Option (bW (Int×cQ×cQ) Bool):=bif decide (s.1<(Int.ofNat s.2.1.length)) then (aN s.2.1 s.1).bind fun a0=>(aN s.2.2 s.1).bind fun a1=>bif !((a0.1==a1.1)&&((a0.2.1==a1.2.1)&&(a0.2.2==a1.2.2))) then some (.done false) else some (.next (aA .i64 (s.1+1),s.2)) else some (.done true)
def lA (p0:Field) (p1:Field):Option Bool:=bif (Int.ofNat p0.points.length) !=(Int.ofNat p1.points.length) then some false else aG tZ (0,p0.points,p1.points)
def c40:bO:=⟨aC.cons (aL.agg bZ) (aC.one (aL.agg bZ)),aL.bool,fun a=>lA a.1 a.2,.pure,false⟩
theorem aO3:aM tab 40 c40:=Oc aNB rfl aH [] trivial fun a=>by kernel_rfl
abbrev Zt8:=Int×Bool×Int×Int×Int×cQ×Int×cQ×(List Int)×(List Bool)×(List Int)×sJ×(List Int)×cQ×(List Int)×Int×Int×Int
def kO (s:Zt8):Option (bW Zt8 Bool):=match s with |(a,b,d,e,f,g,h,i,j,k,l,m,n,o,q,r,t,u)=>bif decide (d<3) then (jY (Field.mk g) (r,t,u)).bind fun a0=>(xE (bA.mk (aP.mk (e,f) (Field.mk g) (aZ.mk h i) (aI.mk (aT.mk j k l) m n) o) q) (r,t,u)).bind fun a1=>bif d==1 then (kZ (Field.mk g) a).bind fun a2=>(uY (bA.mk (aP.mk (e,f) (Field.mk g) (aZ.mk h i) (aI.mk (aT.mk j k l) m n) o) q) a).bind fun a3=>bif d==2 then (fN (Field.mk g) (r,t,u)).bind fun a4=>(nG (bA.mk (aP.mk (e,f) (Field.mk g) (aZ.mk h i) (aI.mk (aT.mk j k l) m n) o) q) (r,t,u)).bind fun a5=>bif a4.2 !=0 then bif a5.2 !=a4.2 then some (.done false) else some (.next (a,b,aA .i64 (d+1),(e,f,g,h,i,j,k,l,m,n,o,q,r,t,u))) else bif a5.2==18 then some (.next (a,b,aA .i64 (d+1),(e,f,g,h,i,j,k,l,m,n,o,q,r,t,u))) else (jD a4.1 (e,f)).bind fun a6=>bif a5.2 !=0 then some (.done false) else bif a6.2 !=0 then some (.done false) else (eN a5.1).bind fun n7=>bif n7 !=0 then some (.done false) else (lA a5.1.clock.field a4.1).bind fun b8=>bif !b8 then some (.done false) else bif !((a5.1.clock.now.1==e)&&(a5.1.clock.now.2==f)) then some (.done false) else (fI a5.1.up a6.1.up).bind fun b9=>bif !b9 then some (.done false) else some (.next (a,b,aA .i64 (d+1),(e,f,g,h,i,j,k,l,m,n,o,q,r,t,u))) else bif a2.2 !=0 then bif a3.2 !=a2.2 then some (.done false) else some (.next (a,b,aA .i64 (d+1),(e,f,g,h,i,j,k,l,m,n,o,q,r,t,u))) else bif a3.2==18 then some (.next (a,b,aA .i64 (d+1),(e,f,g,h,i,j,k,l,m,n,o,q,r,t,u))) else (jD a2.1 (e,f)).bind fun a10=>bif a3.2 !=0 then some (.done false) else bif a10.2 !=0 then some (.done false) else (eN a3.1).bind fun n11=>bif n11 !=0 then some (.done false) else (lA a3.1.clock.field a2.1).bind fun b12=>bif !b12 then some (.done false) else bif !((a3.1.clock.now.1==e)&&(a3.1.clock.now.2==f)) then some (.done false) else (fI a3.1.up a10.1.up).bind fun b13=>bif !b13 then some (.done false) else some (.next (a,b,aA .i64 (d+1),(e,f,g,h,i,j,k,l,m,n,o,q,r,t,u))) else bif d==2 then (fN (Field.mk g) (r,t,u)).bind fun a14=>(nG (bA.mk (aP.mk (e,f) (Field.mk g) (aZ.mk h i) (aI.mk (aT.mk j k l) m n) o) q) (r,t,u)).bind fun a15=>bif a14.2 !=0 then bif a15.2 !=a14.2 then some (.done false) else some (.next (a,b,aA .i64 (d+1),(e,f,g,h,i,j,k,l,m,n,o,q,r,t,u))) else bif a15.2==18 then some (.next (a,b,aA .i64 (d+1),(e,f,g,h,i,j,k,l,m,n,o,q,r,t,u))) else (jD a14.1 (e,f)).bind fun a16=>bif a15.2 !=0 then some (.done false) else bif a16.2 !=0 then some (.done false) else (eN a15.1).bind fun n17=>bif n17 !=0 then some (.done false) else (lA a15.1.clock.field a14.1).bind fun b18=>bif !b18 then some (.done false) else bif !((a15.1.clock.now.1==e)&&(a15.1.clock.now.2==f)) then some (.done false) else (fI a15.1.up a16.1.up).bind fun b19=>bif !b19 then some (.done false) else some (.next (a,b,aA .i64 (d+1),(e,f,g,h,i,j,k,l,m,n,o,q,r,t,u))) else bif a0.2 !=0 then bif a1.2 !=a0.2 then some (.done false) else some (.next (a,b,aA .i64 (d+1),(e,f,g,h,i,j,k,l,m,n,o,q,r,t,u))) else bif a1.2==18 then some (.next (a,b,aA .i64 (d+1),(e,f,g,h,i,j,k,l,m,n,o,q,r,t,u))) else (jD a0.1 (e,f)).bind fun a20=>bif a1.2 !=0 then some (.done false) else bif a20.2 !=0 then some (.done false) else (eN a1.1).bind fun n21=>bif n21 !=0 then some (.done false) else (lA a1.1.clock.field a0.1).bind fun b22=>bif !b22 then some (.done false) else bif !((a1.1.clock.now.1==e)&&(a1.1.clock.now.2==f)) then some (.done false) else (fI a1.1.up a20.1.up).bind fun b23=>bif !b23 then some (.done false) else some (.next (a,b,aA .i64 (d+1),(e,f,g,h,i,j,k,l,m,n,o,q,r,t,u))) else some (.done b)
def rN (p0:bA) (p1:Int×Int×Int) (p2:Int):Option Bool:=(Option.some true).bind fun b0=>(AM p0).bind fun b1=>bif !b1 then some b0 else bif !b0 then some b0 else aG kO (p2,b0,0,p0.clock.now.1,p0.clock.now.2,p0.clock.field.points,p0.clock.certs.next_,p0.clock.certs.list,p0.clock.agenda.slots.uses,p0.clock.agenda.slots.used,p0.clock.agenda.slots.free,p0.clock.agenda.heap,p0.clock.agenda.where_,p0.clock.due,p0.up,p1)
def c6:bO:=⟨aC.cons (aL.agg dX) (aC.cons (aL.agg (cN.row eE)) (aC.one (aL.int .i64))),aL.bool,fun a=>rN a.1 a.2.1 a.2.2,.pure,false⟩
theorem aRk:aM tab 6 c6:=Oc aJ6 rfl aH [(22,c22),(36,c36),(37,c37),(30,c30),(38,c38),(32,c32),(39,c39),(34,c34),(12,c12),(20,c20),(40,c40),(41,c41)] ⟨aOG,aOW,aCU,aOY,aCX,aO0,aCZ,aO2,aCN,aCT,aO3,XQ,trivial⟩ fun a=>by kernel_rfl
end
end
end Go.Proofs.YtbncnimfgdelaaaGreat
