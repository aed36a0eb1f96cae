/- The law EeditAnew returns true: its plain function gives true whatever comes in. -/
import Derived.Test.YthljmpcakagceaaGreatRows
import Derived.Test.YthljmpcakagceaaGreatDQS2
import Derived.Test.YthljmpcakagceaaGreatDQM4
import Derived.Test.YthljmpcakagceaaGreatDVm3
namespace Go.Proofs.YthljmpcakagceaaGreat
open Go.ChangeShapes Go.WideShapes Go.ChangeAt Go.RowKit Go.Vm
theorem aAW:cM Tryz.prog 2 (iB [.i .i64]):=cM.int Tryz.underlying2
theorem ZF:cM Tryz.prog 26 (iB [.i .i64,.i .i64]):=(cM.struct (Ks:=[(iB [.i .i64]),(iB [.i .i64])]) Tryz.underlying26 (bF.cons (by kernel_rfl) aAW (bF.cons (by kernel_rfl) aAW (bF.nil))) (by kernel_rfl)).mono (fun vs h=>pG (rs:=[[.i .i64],[.i .i64]]) h)
theorem zO:cM Tryz.prog 3 (iB [.i .i64]):=cM.int Tryz.underlying3
theorem aEC:cM Tryz.prog 64 (iB [.i .i64,.i .i64,.i .i64]):=(cM.struct (Ks:=[(iB [.i .i64]),(iB [.i .i64]),(iB [.i .i64])]) Tryz.underlying64 (bF.cons (by kernel_rfl) zO (bF.cons (by kernel_rfl) aAW (bF.cons (by kernel_rfl) aAW (bF.nil)))) (by kernel_rfl)).mono (fun vs h=>pG (rs:=[[.i .i64],[.i .i64],[.i .i64]]) h)
theorem aSr:cM Tryz.prog 22 (U1 [.i .i64,.i .i64,.i .i64]):=cM.slice (r:=[.i .i64,.i .i64,.i .i64]) Tryz.underlying22 aEC (by kernel_rfl) (by decide)
structure Field.WF (c:Field):Prop where
 points: ∀a∈c.points,RT.wf [.i .i64,.i .i64,.i .i64] a
def aAX:List SV->Prop:=fun vs=> ∃c:Field,vs=bV.enc c/\c.WF
theorem aSs:cM Tryz.prog 24 aAX:=(cM.struct (Ks:=[(U1 [.i .i64,.i .i64,.i .i64])]) Tryz.underlying24 (bF.cons (by kernel_rfl) aSr (bF.nil)) (by kernel_rfl)).mono (by
 rintro vs ⟨_,b0,rfl,⟨c0,rfl,w0⟩,rfl⟩;refine ⟨⟨c0⟩,?_,⟨w0⟩⟩;simp only [List.append_nil]
 rfl)
theorem aSt:cM Tryz.prog 66 (iB [.i .i64,.i .i64]):=(cM.struct (Ks:=[(iB [.i .i64]),(iB [.i .i64])]) Tryz.underlying66 (bF.cons (by kernel_rfl) zO (bF.cons (by kernel_rfl) zO (bF.nil))) (by kernel_rfl)).mono (fun vs h=>pG (rs:=[[.i .i64],[.i .i64]]) h)
theorem aMd:cM Tryz.prog 197 (iB [.i .i64,.i .i64,.i .i64]):=(cM.struct (Ks:=[(iB [.i .i64]),(iB [.i .i64,.i .i64])]) Tryz.underlying197 (bF.cons (by kernel_rfl) zO (bF.cons (by kernel_rfl) aSt (bF.nil))) (by kernel_rfl)).mono (fun vs h=>pG (rs:=[[.i .i64],[.i .i64,.i .i64]]) h)
theorem aSu:cM Tryz.prog 31 (U1 [.i .i64,.i .i64,.i .i64]):=cM.slice (r:=[.i .i64,.i .i64,.i .i64]) Tryz.underlying31 aMd (by kernel_rfl) (by decide)
structure bL.WF (c:bL):Prop where
 next_:RT.wf [.i .i64] c.next_
 list: ∀a∈c.list,RT.wf [.i .i64,.i .i64,.i .i64] a
def aAY:List SV->Prop:=fun vs=> ∃c:bL,vs=jK.enc c/\c.WF
theorem aSv:cM Tryz.prog 33 aAY:=(cM.struct (Ks:=[(iB [.i .i64]),(U1 [.i .i64,.i .i64,.i .i64])]) Tryz.underlying33 (bF.cons (by kernel_rfl) zO (bF.cons (by kernel_rfl) aSu (bF.nil))) (by kernel_rfl)).mono (by
 rintro vs ⟨_,b0,rfl,⟨c0,rfl,w0⟩,_,b1,rfl,⟨c1,rfl,w1⟩,rfl⟩;refine ⟨⟨c0,c1⟩,?_,⟨w0,w1⟩⟩;simp only [List.append_nil]
 rfl)
theorem ZG:cM Tryz.prog 34 (U1 [.i .i64]):=cM.slice (r:=[.i .i64]) Tryz.underlying34 zO (by kernel_rfl) (by decide)
theorem aVb:cM Tryz.prog 4 (iB [.b]):=cM.bool Tryz.underlying4
theorem aSw:cM Tryz.prog 35 (U1 [.b]):=cM.slice (r:=[.b]) Tryz.underlying35 aVb (by kernel_rfl) (by decide)
structure bC.WF (c:bC):Prop where
 uses: ∀a∈c.uses,RT.wf [.i .i64] a
 used: ∀a∈c.used,RT.wf [.b] a
 free: ∀a∈c.free,RT.wf [.i .i64] a
def aAZ:List SV->Prop:=fun vs=> ∃c:bC,vs=iG.enc c/\c.WF
theorem aSx:cM Tryz.prog 37 aAZ:=(cM.struct (Ks:=[(U1 [.i .i64]),(U1 [.b]),(U1 [.i .i64])]) Tryz.underlying37 (bF.cons (by kernel_rfl) ZG (bF.cons (by kernel_rfl) aSw (bF.cons (by kernel_rfl) ZG (bF.nil)))) (by kernel_rfl)).mono (by
 rintro vs ⟨_,b0,rfl,⟨c0,rfl,w0⟩,_,b1,rfl,⟨c1,rfl,w1⟩,_,b2,rfl,⟨c2,rfl,w2⟩,rfl⟩;refine ⟨⟨c0,c1,c2⟩,?_,⟨w0,w1,w2⟩⟩;simp only [List.append_nil]
 rfl)
theorem aA0:cM Tryz.prog 135 (iB [.i .i64,.i .i64]):=(cM.struct (Ks:=[(iB [.i .i64]),(iB [.i .i64])]) Tryz.underlying135 (bF.cons (by kernel_rfl) zO (bF.cons (by kernel_rfl) zO (bF.nil))) (by kernel_rfl)).mono (fun vs h=>pG (rs:=[[.i .i64],[.i .i64]]) h)
theorem aMe:cM Tryz.prog 137 (iB [.i .i64,.i .i64,.i .i64,.i .i64,.i .i64]):=(cM.struct (Ks:=[(iB [.i .i64,.i .i64]),(iB [.i .i64]),(iB [.i .i64,.i .i64])]) Tryz.underlying137 (bF.cons (by kernel_rfl) ZF (bF.cons (by kernel_rfl) zO (bF.cons (by kernel_rfl) aA0 (bF.nil)))) (by kernel_rfl)).mono (fun vs h=>pG (rs:=[[.i .i64,.i .i64],[.i .i64],[.i .i64,.i .i64]]) h)
theorem aSy:cM Tryz.prog 38 (U1 [.i .i64,.i .i64,.i .i64,.i .i64,.i .i64]):=cM.slice (r:=[.i .i64,.i .i64,.i .i64,.i .i64,.i .i64]) Tryz.underlying38 aMe (by kernel_rfl) (by decide)
structure aP.WF (c:aP):Prop where
 slots:bC.WF c.slots
 heap: ∀a∈c.heap,RT.wf [.i .i64,.i .i64,.i .i64,.i .i64,.i .i64] a
 where_: ∀a∈c.where_,RT.wf [.i .i64] a
def W3:List SV->Prop:=fun vs=> ∃c:aP,vs=dN.enc c/\c.WF
theorem aSz:cM Tryz.prog 40 W3:=(cM.struct (Ks:=[aAZ,(U1 [.i .i64,.i .i64,.i .i64,.i .i64,.i .i64]),(U1 [.i .i64])]) Tryz.underlying40 (bF.cons (by kernel_rfl) aSx (bF.cons (by kernel_rfl) aSy (bF.cons (by kernel_rfl) ZG (bF.nil)))) (by kernel_rfl)).mono (by
 rintro vs ⟨_,b0,rfl,⟨c0,rfl,w0⟩,_,b1,rfl,⟨c1,rfl,w1⟩,_,b2,rfl,⟨c2,rfl,w2⟩,rfl⟩;refine ⟨⟨c0,c1,c2⟩,?_,⟨w0,w1,w2⟩⟩;simp only [List.append_nil]
 rfl)
theorem aMf:cM Tryz.prog 201 (iB [.i .i64,.i .i64,.i .i64]):=(cM.struct (Ks:=[(iB [.i .i64]),(iB [.i .i64,.i .i64])]) Tryz.underlying201 (bF.cons (by kernel_rfl) zO (bF.cons (by kernel_rfl) aA0 (bF.nil))) (by kernel_rfl)).mono (fun vs h=>pG (rs:=[[.i .i64],[.i .i64,.i .i64]]) h)
theorem aSA:cM Tryz.prog 41 (U1 [.i .i64,.i .i64,.i .i64]):=cM.slice (r:=[.i .i64,.i .i64,.i .i64]) Tryz.underlying41 aMf (by kernel_rfl) (by decide)
structure aQ.WF (c:aQ):Prop where
 now:RT.wf [.i .i64,.i .i64] c.now
 field:Field.WF c.field
 certs:bL.WF c.certs
 agenda:aP.WF c.agenda
 due: ∀a∈c.due,RT.wf [.i .i64,.i .i64,.i .i64] a
def aA1:List SV->Prop:=fun vs=> ∃c:aQ,vs=bY.enc c/\c.WF
theorem aSB:cM Tryz.prog 43 aA1:=(cM.struct (Ks:=[(iB [.i .i64,.i .i64]),aAX,aAY,W3,(U1 [.i .i64,.i .i64,.i .i64])]) Tryz.underlying43 (bF.cons (by kernel_rfl) ZF (bF.cons (by kernel_rfl) aSs (bF.cons (by kernel_rfl) aSv (bF.cons (by kernel_rfl) aSz (bF.cons (by kernel_rfl) aSA (bF.nil)))))) (by kernel_rfl)).mono (by
 rintro vs ⟨_,b0,rfl,⟨c0,rfl,w0⟩,_,b1,rfl,⟨c1,rfl,w1⟩,_,b2,rfl,⟨c2,rfl,w2⟩,_,b3,rfl,⟨c3,rfl,w3⟩,_,b4,rfl,⟨c4,rfl,w4⟩,rfl⟩;refine ⟨⟨c0,c1,c2,c3,c4⟩,?_,⟨w0,w1,w2,w3,w4⟩⟩;simp only [List.append_nil]
 rfl)
theorem aSC:cM Tryz.prog 62 (iB [.i .i64,.i .i64,.i .i64]):=(cM.struct (Ks:=[(iB [.i .i64]),(iB [.i .i64]),(iB [.i .i64])]) Tryz.underlying62 (bF.cons (by kernel_rfl) zO (bF.cons (by kernel_rfl) zO (bF.cons (by kernel_rfl) zO (bF.nil)))) (by kernel_rfl)).mono (fun vs h=>pG (rs:=[[.i .i64],[.i .i64],[.i .i64]]) h)
theorem aSD:cM Tryz.prog 44 (U1 [.i .i64,.i .i64,.i .i64]):=cM.slice (r:=[.i .i64,.i .i64,.i .i64]) Tryz.underlying44 aSC (by kernel_rfl) (by decide)
structure kF.WF (c:kF):Prop where
 root:RT.wf [.i .i64] c.root
 nodes: ∀a∈c.nodes,RT.wf [.i .i64,.i .i64,.i .i64] a
def aED:List SV->Prop:=fun vs=> ∃c:kF,vs=xN.enc c/\c.WF
theorem aSE:cM Tryz.prog 46 aED:=(cM.struct (Ks:=[(iB [.i .i64]),(U1 [.i .i64,.i .i64,.i .i64])]) Tryz.underlying46 (bF.cons (by kernel_rfl) zO (bF.cons (by kernel_rfl) aSD (bF.nil))) (by kernel_rfl)).mono (by
 rintro vs ⟨_,b0,rfl,⟨c0,rfl,w0⟩,_,b1,rfl,⟨c1,rfl,w1⟩,rfl⟩;refine ⟨⟨c0,c1⟩,?_,⟨w0,w1⟩⟩;simp only [List.append_nil]
 rfl)
structure bD.WF (c:bD):Prop where
 clock:aQ.WF c.clock
 tree:kF.WF c.tree
def aEE:List SV->Prop:=fun vs=> ∃c:bD,vs=dO.enc c/\c.WF
theorem aSF:cM Tryz.prog 48 aEE:=(cM.struct (Ks:=[aA1,aED]) Tryz.underlying48 (bF.cons (by kernel_rfl) aSB (bF.cons (by kernel_rfl) aSE (bF.nil))) (by kernel_rfl)).mono (by
 rintro vs ⟨_,b0,rfl,⟨c0,rfl,w0⟩,_,b1,rfl,⟨c1,rfl,w1⟩,rfl⟩;refine ⟨⟨c0,c1⟩,?_,⟨w0,w1⟩⟩;simp only [List.append_nil]
 rfl)
theorem aVc:Tryz.prog.readableRec 48=true/\48<Tryz.prog.types.size:=⟨by kernel_rfl,of_decide_eq_true (by kernel_rfl)⟩
theorem aVd:Tryz.prog.readableRec 64=true/\64<Tryz.prog.types.size:=⟨by kernel_rfl,of_decide_eq_true (by kernel_rfl)⟩
theorem aW4:Tryz.prog.readableRec 3=true/\3<Tryz.prog.types.size:=⟨by kernel_rfl,of_decide_eq_true (by kernel_rfl)⟩
theorem aVe:Tryz.prog.readableRec 26=true/\26<Tryz.prog.types.size:=⟨by kernel_rfl,of_decide_eq_true (by kernel_rfl)⟩
theorem aW5:ownKnob Tryz.prog.godebug=none:=by kernel_rfl
theorem qS {a b:Bool} (h:a=true) (k:b=true):(a&&b)=true:=by rw [h,k];rfl
theorem Qk0:Rows.eeditAnewRow.wf (OpenSpec.ofChange Rows.eeditAnewSpec)=true:=by decide+kernel
theorem Qk1:laidOutB Tryz.prog=true:=by decide+kernel
theorem Qk2:mapsRowed Tryz.prog=true:=by decide+kernel
theorem Qk3:Tryz.f9.params.all (Tryz.prog.readableRec ·)=true:=by decide+kernel
theorem Qk4:namedTie Tryz.prog Rows.eeditAnewRow.named Rows.eeditAnewSpec.vars=true:=by decide+kernel
theorem Qk5:(Rows.eeditAnewRow.stops==[])=true:=by decide+kernel
theorem Qk6:(Tryz.prog.stops==[])=true:=by decide+kernel
theorem Qk7:(Rows.eeditAnewRow.knobs==[])=true:=by decide+kernel
theorem Qk8:(Tryz.prog.stopKnobs==[])=true:=by decide+kernel
theorem Qk9:(Rows.eeditAnewRow.inPlace==Tryz.prog.inPlace 9)=true:=by decide+kernel
theorem aW6:(Rows.eeditAnewRow.unfollowed==Tryz.prog.unfollowed 9)=true:=by decide+kernel
theorem aW7:(Rows.eeditAnewRow.recurses==Tryz.prog.recurses 9)=true:=by decide+kernel
theorem aW8:(Rows.eeditAnewRow.named==Tryz.prog.varsNamed 9)=true:=by decide+kernel
theorem aW9:(Rows.eeditAnewRow.maps==(Tryz.f9.params.toList++Rows.eeditAnewSpec.plain.varTypes Tryz.prog).any (Tryz.prog.mapsRec ·))=true:=by decide+kernel
theorem aXa:(Rows.eeditAnewRow.ifaces==(Tryz.f9.params.toList++Rows.eeditAnewSpec.plain.varTypes Tryz.prog).any (Tryz.prog.ifacesRec ·))=true:=by decide+kernel
theorem aXb:(Rows.eeditAnewRow.mapsOut==Tryz.prog.mapsAmong Tryz.f9.resultTypes.toList)=true:=by decide+kernel
theorem aXc:(Rows.eeditAnewRow.loops==(Tryz.f9.params.toList++Rows.eeditAnewSpec.plain.varTypes Tryz.prog).any (Tryz.prog.loopsFrom ·))=true:=by decide+kernel
theorem aXd:(Rows.eeditAnewRow.wideKeys==(Tryz.f9.params.toList++Rows.eeditAnewSpec.plain.varTypes Tryz.prog++Tryz.f9.resultTypes.toList).any (Tryz.prog.wideKeysFrom ·))=true:=by decide+kernel
theorem aXe:Rows.eeditAnewSpec.vars.all (Tryz.prog.varReadable ·)=true:=by decide+kernel
theorem aXf:Tryz.f9.resultTypes.all (fun t=>Tryz.prog.readableRec t&&decide (t<Tryz.prog.types.size))=true:=by decide+kernel
theorem aXg:(Rows.eeditAnewRow.ifacesOut==Tryz.f9.resultTypes.toList.any (Tryz.prog.ifacesRec ·))=true:=by decide+kernel
theorem aXh:(Rows.eeditAnewRow.loopsOut==Tryz.f9.resultTypes.toList.any (Tryz.prog.loopsFrom ·))=true:=by decide+kernel
theorem aXi:(Rows.eeditAnewRow.plainKeys==Tryz.prog.plainKeys)=true:=by decide+kernel
theorem aXj:Rows.eeditAnewRow.shortTexts.isNone=true:=by decide+kernel
theorem aXk:Tryz.prog.stopsHeard=true:=by decide+kernel
theorem aXl:Tryz.prog.mayEnter=true:=by decide+kernel
theorem aXm:(Rows.eeditAnewRow.lifted==Tryz.prog.liftsFinal)=true:=by decide+kernel
theorem aXn:(Tryz.prog.make==some Rows.eeditAnewRow.make)=true:=by decide+kernel
theorem aXo:(Rows.eeditAnewRow.kinds==(if Rows.eeditAnewRow.domain.isEmpty then [] else Tryz.f9.params.toList.map fun t=>match Tryz.prog.underlying t with|some (.int k)=>some k|_=>none))=true:=by decide+kernel
theorem aXp:(Rows.eeditAnewRow.pinned==Rows.eeditAnewRow.pinnedBy)=true:=by decide+kernel
theorem aXq:(Rows.eeditAnewRow.veiled==(Tryz.f9.params.toList++Rows.eeditAnewSpec.plain.varTypes Tryz.prog++Tryz.f9.resultTypes.toList).any (Tryz.prog.veiledRec ·))=true:=by decide+kernel
theorem aXr:Rows.eeditAnewRow.veiledFits Tryz.prog Tryz.f9.params.toList (Tryz.f9.params.toList++Rows.eeditAnewSpec.plain.varTypes Tryz.prog++Tryz.f9.resultTypes.toList)=true:=by decide+kernel
set_option maxRecDepth 100000 in
theorem aMg:joinedFacts Tryz.prog 9 Tryz.f9 Rows.eeditAnewSpec Rows.eeditAnewRow=true:=(qS (qS (qS (qS (qS (qS (qS (qS (qS (qS (qS (qS (qS (qS (qS (qS (qS (qS (qS (qS (qS (qS (qS (qS (qS (qS (qS (qS (qS (qS (qS Qk0 Qk1) Qk2) Qk3) Qk4) Qk5) Qk6) Qk7) Qk8) Qk9) aW6) aW7) aW8) aW9) aXa) aXb) aXc) aXd) aXe) aXf) aXg) aXh) aXi) aXj) aXk) aXl) aXm) aXn) aXo) aXp) aXq) aXr)
set_option maxRecDepth 100000 in
theorem aMh (os:Os) (started:os.Started) (H:Type) (enc:TypeId×Value->H):
 ReturnsInHanded {} Tryz.checked os 9 .any (Rows.eeditAnewSpec.pre6 enc Tryz.prog Tryz.f9 Rows.eeditAnewRow.domain false) (Rows.eeditAnewSpec.post enc Tryz.prog Tryz.f9 false true false false):=by
 refine returnsInHanded_of_change (C:=Tryz.checked) aW5 started (by kernel_rfl) Tryz.func9
  (ChangeSpec.witness6 (enc:=enc) (C:=Tryz.checked) false ⟨#[],#[.agg #[.int .i64 0,.int .i64 0,.slice none 0 0,.int .i64 0,.slice none 0 0,.slice none 0 0,.slice none 0 0,.slice none 0 0,.slice none 0 0,.slice none 0 0,.slice none 0 0,.int .i64 0,.slice none 0 0],.agg #[.int .i64 0,.int .i64 0,.int .i64 0],.int .i64 0,.agg #[.int .i64 0,.int .i64 0]],[]⟩ 16 (by kernel_rfl) (by kernel_rfl) (by kernel_rfl) (by kernel_rfl)) ?_
 intro W base args ds gs before hval0 hW hcnd _;have hval: ∀(j:Nat) t v,Tryz.f9.params[j]? =some t->args[j]? =some v->Value.okWide Tryz.prog W .any base t v:=hval0;have hW':=hW;obtain ⟨p,q,hA0,hV,rfl,hfz,hnd⟩:=hW;have hA:DataW.TrodAll enc Tryz.prog W 0 (fun _=>true) true Tryz.f9.params.toList args.toList ds p:=hA0
 rw [Tryz.params9] at hA hval;obtain ⟨v0,vs0,d0,ds0,p0,q0,hargs,rfl,rfl,h0,r0⟩:=trodAll_cons hA;obtain ⟨v1,vs1,d1,ds1,p1,q1,rfl,rfl,rfl,h1,r1⟩:=trodAll_cons r0;obtain ⟨v2,vs2,d2,ds2,p2,q2,rfl,rfl,rfl,h2,r2⟩:=trodAll_cons r1;obtain ⟨v3,vs3,d3,ds3,p3,q3,rfl,rfl,rfl,h3,r3⟩:=trodAll_cons r2;obtain ⟨rfl,rfl,rfl⟩:=trodAll_nil r3;obtain rfl:args= #[v0,v1,v2,v3]:=by cases args;simp_all
 obtain ⟨rfl,rfl⟩:=trodVars_none hV;obtain ⟨_,g0,⟨a0,rfl,w0⟩,e0,k0⟩:=cM.argS aSF Tryz.underlying48 (hval 0 48 v0 rfl rfl) h0;obtain rfl:g0=(pvL (dO.enc a0)).getD []:=by rw [e0];rfl
 obtain ⟨_,g1,⟨a1,rfl,w1⟩,e1,k1⟩:=cM.argS aEC Tryz.underlying64 (hval 1 64 v1 rfl rfl) h1;obtain rfl:g1=(pvL (RT.sv [.i .i64,.i .i64,.i .i64] a1)).getD []:=by rw [e1];rfl
 obtain ⟨a2,w2,k2⟩:=cM.argI Tryz.underlying3 (hval 2 3 v2 rfl rfl) h2;obtain ⟨_,g3,⟨a3,rfl,w3⟩,e3,k3⟩:=cM.argS ZF Tryz.underlying26 (hval 3 26 v3 rfl rfl) h3;obtain rfl:g3=(pvL (RT.sv [.i .i64,.i .i64] a3)).getD []:=by rw [e3];rfl
 obtain ⟨n,s,z,hrun⟩:=aJ.runA aUZ aMD (a:=(a0,a1,a2,a3)) (EY a0 a1 a2 a3 (aB3.of w0.clock.now w0.clock.agenda.heap) ⟨J8 w3.1,J8 w3.2⟩) (ps:=[.agg ((pvL (dO.enc a0)).getD []),.agg ((pvL (RT.sv [.i .i64,.i .i64,.i .i64] a1)).getD []),.int .i64 a2,.agg ((pvL (RT.sv [.i .i64,.i .i64] a3)).getD [])]) rfl rfl
 refine (aBn (P:=Tryz.prog) (prims:=fun _=>true) (TT.tabOK Z9) (TT.primsOK Z9) oM hrun (us:=[v0,v1,v2,v3]) (w:=W) (.cons _ _ _ _ k0 (.cons _ _ _ _ k1 (.cons _ _ _ _ k2 (.cons _ _ _ _ k3 (.nil)))))).mono fun e W' ⟨he,hb⟩=>?_
 subst he;exact ⟨_,rfl,aCB (P:=Tryz.prog) (bt:=4) Qk1 rfl rfl (by kernel_rfl) (by
  rw [Tryz.params9];intro t ht;simp only [List.mem_cons,List.not_mem_nil,or_false] at ht;rcases ht with rfl|rfl|rfl|rfl
  · exact aVc
  · exact aVd
  · exact aW4
  · exact aVe) hW' rfl hb⟩
theorem eeditAnew_holds:Rows.EeditAnewSaid:=
 OpenClaim.holds_of_wide 9 Tryz.f9 rfl rfl rfl rfl rfl rfl rfl ⟨rfl,rfl,rfl,rfl,rfl⟩ rfl rfl rfl rfl rfl (by kernel_rfl) Tryz.func9 aMg
  (of_decide_eq_true (by kernel_rfl)) (by unfold Func.isWrapper;first|(rw [if_pos (by decide+kernel)];kernel_rfl)|(rw [if_neg (by decide+kernel)];exact ⟨rfl,rfl⟩))
  (fun os started H enc _=>aMh os started H enc)
end Go.Proofs.YthljmpcakagceaaGreat
