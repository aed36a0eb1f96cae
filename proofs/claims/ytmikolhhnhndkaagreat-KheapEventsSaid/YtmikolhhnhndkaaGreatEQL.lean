/- The law KheapEvents returns true: its plain function gives true whatever comes in. -/
import Derived.Test.YtmikolhhnhndkaaGreatRows
import Derived.Test.YtmikolhhnhndkaaGreatEQTB
import Derived.Test.YtmikolhhnhndkaaGreatEQM4
import Derived.Test.YtmikolhhnhndkaaGreatEVm3
open List renaming append_nil->ut
open Option renaming none->v6
open Bool renaming true->ww
namespace Go.Proofs.YtmikolhhnhndkaaGreat
open Go.ChangeShapes Go.WideShapes Go.ChangeAt Go.RowKit Go.Vm
theorem Nc:cp Tryz.prog 2 (fW [.i .i64]):=cp.int Tryz.underlying2
theorem LZ:cp Tryz.prog 23 (fW [.i .i64,.i .i64]):=(cp.struct (Ks:=[(fW [.i .i64]),(fW [.i .i64])]) Tryz.underlying23 (bg.cons (by kernel_rfl) Nc (bg.cons (by kernel_rfl) Nc (bg.nil))) (by kernel_rfl)).mono (fun vs h=>mc (rs:=[[.i .i64],[.i .i64]]) h)
theorem yu:cp Tryz.prog 3 (fW [.i .i64]):=cp.int Tryz.underlying3
theorem adH:cp Tryz.prog 85 (fW [.i .i64,.i .i64,.i .i64]):=(cp.struct (Ks:=[(fW [.i .i64]),(fW [.i .i64]),(fW [.i .i64])]) Tryz.underlying85 (bg.cons (by kernel_rfl) yu (bg.cons (by kernel_rfl) Nc (bg.cons (by kernel_rfl) Nc (bg.nil)))) (by kernel_rfl)).mono (fun vs h=>mc (rs:=[[.i .i64],[.i .i64],[.i .i64]]) h)
theorem adI:cp Tryz.prog 24 (Kl [.i .i64,.i .i64,.i .i64]):=cp.slice (r:=[.i .i64,.i .i64,.i .i64]) Tryz.underlying24 adH (by kernel_rfl) (by decide)
structure Field.WF (c:Field):Prop where
 be: ∀a∈c.be,RT.wf [.i .i64,.i .i64,.i .i64] a
def Nf:List SV->Prop:=fun vs=> ∃c:Field,vs=dE.enc c/\c.WF
theorem adJ:cp Tryz.prog 26 Nf:=(cp.struct (Ks:=[(Kl [.i .i64,.i .i64,.i .i64])]) Tryz.underlying26 (bg.cons (by kernel_rfl) adI (bg.nil)) (by kernel_rfl)).mono (by rintro vs ⟨_,b0,rfl,⟨c0,rfl,w0⟩,rfl⟩;refine ⟨⟨c0⟩,?_,⟨w0⟩⟩;simp only [ut];rfl)
theorem adK:cp Tryz.prog 59 (fW [.i .i64,.i .i64]):=(cp.struct (Ks:=[(fW [.i .i64]),(fW [.i .i64])]) Tryz.underlying59 (bg.cons (by kernel_rfl) yu (bg.cons (by kernel_rfl) yu (bg.nil))) (by kernel_rfl)).mono (fun vs h=>mc (rs:=[[.i .i64],[.i .i64]]) h)
theorem W6:cp Tryz.prog 107 (fW [.i .i64,.i .i64,.i .i64]):=(cp.struct (Ks:=[(fW [.i .i64]),(fW [.i .i64,.i .i64])]) Tryz.underlying107 (bg.cons (by kernel_rfl) yu (bg.cons (by kernel_rfl) adK (bg.nil))) (by kernel_rfl)).mono (fun vs h=>mc (rs:=[[.i .i64],[.i .i64,.i .i64]]) h)
theorem adL:cp Tryz.prog 27 (Kl [.i .i64,.i .i64,.i .i64]):=cp.slice (r:=[.i .i64,.i .i64,.i .i64]) Tryz.underlying27 W6 (by kernel_rfl) (by decide)
structure bj.WF (c:bj):Prop where
 aM:RT.wf [.i .i64] c.aM
 ci: ∀a∈c.ci,RT.wf [.i .i64,.i .i64,.i .i64] a
def Ng:List SV->Prop:=fun vs=> ∃c:bj,vs=mO.enc c/\c.WF
theorem adM:cp Tryz.prog 29 Ng:=(cp.struct (Ks:=[(fW [.i .i64]),(Kl [.i .i64,.i .i64,.i .i64])]) Tryz.underlying29 (bg.cons (by kernel_rfl) yu (bg.cons (by kernel_rfl) adL (bg.nil))) (by kernel_rfl)).mono (by rintro vs ⟨_,b0,rfl,⟨c0,rfl,w0⟩,_,b1,rfl,⟨c1,rfl,w1⟩,rfl⟩;refine ⟨⟨c0,c1⟩,?_,⟨w0,w1⟩⟩;simp only [ut];rfl)
theorem HK:cp Tryz.prog 30 (Kl [.i .i64]):=cp.slice (r:=[.i .i64]) Tryz.underlying30 yu (by kernel_rfl) (by decide)
theorem ag':cp Tryz.prog 4 (fW [.b]):=cp.bool Tryz.underlying4
theorem adN:cp Tryz.prog 31 (Kl [.b]):=cp.slice (r:=[.b]) Tryz.underlying31 ag' (by kernel_rfl) (by decide)
structure aU.WF (c:aU):Prop where
 aq: ∀a∈c.aq,RT.wf [.i .i64] a
 bi: ∀a∈c.bi,RT.wf [.b] a
 bv: ∀a∈c.bv,RT.wf [.i .i64] a
def Nh:List SV->Prop:=fun vs=> ∃c:aU,vs=lz.enc c/\c.WF
theorem adO:cp Tryz.prog 33 Nh:=(cp.struct (Ks:=[(Kl [.i .i64]),(Kl [.b]),(Kl [.i .i64])]) Tryz.underlying33 (bg.cons (by kernel_rfl) HK (bg.cons (by kernel_rfl) adN (bg.cons (by kernel_rfl) HK (bg.nil)))) (by kernel_rfl)).mono (by rintro vs ⟨_,b0,rfl,⟨c0,rfl,w0⟩,_,b1,rfl,⟨c1,rfl,w1⟩,_,b2,rfl,⟨c2,rfl,w2⟩,rfl⟩;refine ⟨⟨c0,c1,c2⟩,?_,⟨w0,w1,w2⟩⟩;simp only [ut];rfl)
theorem Ni:cp Tryz.prog 111 (fW [.i .i64,.i .i64]):=(cp.struct (Ks:=[(fW [.i .i64]),(fW [.i .i64])]) Tryz.underlying111 (bg.cons (by kernel_rfl) yu (bg.cons (by kernel_rfl) yu (bg.nil))) (by kernel_rfl)).mono (fun vs h=>mc (rs:=[[.i .i64],[.i .i64]]) h)
theorem W7:cp Tryz.prog 115 (fW [.i .i64,.i .i64,.i .i64,.i .i64,.i .i64]):=(cp.struct (Ks:=[(fW [.i .i64,.i .i64]),(fW [.i .i64]),(fW [.i .i64,.i .i64])]) Tryz.underlying115 (bg.cons (by kernel_rfl) LZ (bg.cons (by kernel_rfl) yu (bg.cons (by kernel_rfl) Ni (bg.nil)))) (by kernel_rfl)).mono (fun vs h=>mc (rs:=[[.i .i64,.i .i64],[.i .i64],[.i .i64,.i .i64]]) h)
theorem adP:cp Tryz.prog 34 (Kl [.i .i64,.i .i64,.i .i64,.i .i64,.i .i64]):=cp.slice (r:=[.i .i64,.i .i64,.i .i64,.i .i64,.i .i64]) Tryz.underlying34 W7 (by kernel_rfl) (by decide)
structure aH.WF (c:aH):Prop where
 ai:aU.WF c.ai
 ce: ∀a∈c.ce,RT.wf [.i .i64,.i .i64,.i .i64,.i .i64,.i .i64] a
 ao: ∀a∈c.ao,RT.wf [.i .i64] a
def Kf:List SV->Prop:=fun vs=> ∃c:aH,vs=fb.enc c/\c.WF
theorem adQ:cp Tryz.prog 36 Kf:=(cp.struct (Ks:=[Nh,(Kl [.i .i64,.i .i64,.i .i64,.i .i64,.i .i64]),(Kl [.i .i64])]) Tryz.underlying36 (bg.cons (by kernel_rfl) adO (bg.cons (by kernel_rfl) adP (bg.cons (by kernel_rfl) HK (bg.nil)))) (by kernel_rfl)).mono (by rintro vs ⟨_,b0,rfl,⟨c0,rfl,w0⟩,_,b1,rfl,⟨c1,rfl,w1⟩,_,b2,rfl,⟨c2,rfl,w2⟩,rfl⟩;refine ⟨⟨c0,c1,c2⟩,?_,⟨w0,w1,w2⟩⟩;simp only [ut];rfl)
theorem W8:cp Tryz.prog 113 (fW [.i .i64,.i .i64,.i .i64]):=(cp.struct (Ks:=[(fW [.i .i64]),(fW [.i .i64,.i .i64])]) Tryz.underlying113 (bg.cons (by kernel_rfl) yu (bg.cons (by kernel_rfl) Ni (bg.nil))) (by kernel_rfl)).mono (fun vs h=>mc (rs:=[[.i .i64],[.i .i64,.i .i64]]) h)
theorem adR:cp Tryz.prog 37 (Kl [.i .i64,.i .i64,.i .i64]):=cp.slice (r:=[.i .i64,.i .i64,.i .i64]) Tryz.underlying37 W8 (by kernel_rfl) (by decide)
structure aI.WF (c:aI):Prop where
 ii:RT.wf [.i .i64,.i .i64] c.ii
 io:Field.WF c.io
 af:bj.WF c.af
 aa:aH.WF c.aa
 jp: ∀a∈c.jp,RT.wf [.i .i64,.i .i64,.i .i64] a
def Nj:List SV->Prop:=fun vs=> ∃c:aI,vs=dM.enc c/\c.WF
theorem adS:cp Tryz.prog 39 Nj:=(cp.struct (Ks:=[(fW [.i .i64,.i .i64]),Nf,Ng,Kf,(Kl [.i .i64,.i .i64,.i .i64])]) Tryz.underlying39 (bg.cons (by kernel_rfl) LZ (bg.cons (by kernel_rfl) adJ (bg.cons (by kernel_rfl) adM (bg.cons (by kernel_rfl) adQ (bg.cons (by kernel_rfl) adR (bg.nil)))))) (by kernel_rfl)).mono (by
 rintro vs ⟨_,b0,rfl,⟨c0,rfl,w0⟩,_,b1,rfl,⟨c1,rfl,w1⟩,_,b2,rfl,⟨c2,rfl,w2⟩,_,b3,rfl,⟨c3,rfl,w3⟩,_,b4,rfl,⟨c4,rfl,w4⟩,rfl⟩;refine ⟨⟨c0,c1,c2,c3,c4⟩,?_,⟨w0,w1,w2,w3,w4⟩⟩;simp only [ut];rfl)
structure dA.WF (c:dA):Prop where
 kw:aI.WF c.kw
 ce: ∀a∈c.ce,RT.wf [.i .i64] a
def W9:List SV->Prop:=fun vs=> ∃c:dA,vs=kL.enc c/\c.WF
theorem adT:cp Tryz.prog 41 W9:=(cp.struct (Ks:=[Nj,(Kl [.i .i64])]) Tryz.underlying41 (bg.cons (by kernel_rfl) adS (bg.cons (by kernel_rfl) HK (bg.nil))) (by kernel_rfl)).mono (by rintro vs ⟨_,b0,rfl,⟨c0,rfl,w0⟩,_,b1,rfl,⟨c1,rfl,w1⟩,rfl⟩;refine ⟨⟨c0,c1⟩,?_,⟨w0,w1⟩⟩;simp only [ut];rfl)
theorem aha:Tryz.prog.readableRec 41=ww/\41<Tryz.prog.types.size:=⟨by kernel_rfl,of_decide_eq_true (by kernel_rfl)⟩
theorem ahb:Tryz.prog.readableRec 23=ww/\23<Tryz.prog.types.size:=⟨by kernel_rfl,of_decide_eq_true (by kernel_rfl)⟩
theorem al0:ownKnob Tryz.prog.godebug=v6:=by kernel_rfl
theorem lR {a b:Bool} (h:a=ww) (k:b=ww):(a&&b)=ww:=by rw [h,k];rfl
theorem Qk0:Rows.kheapEventsRow.wf (OpenSpec.ofChange Rows.kheapEventsSpec)=ww:=by decide+kernel
theorem Qk1:laidOutB Tryz.prog=ww:=by decide+kernel
theorem Qk2:mapsRowed Tryz.prog=ww:=by decide+kernel
theorem Qk3:Tryz.f3.params.all (Tryz.prog.readableRec ·)=ww:=by decide+kernel
theorem Qk4:namedTie Tryz.prog Rows.kheapEventsRow.named Rows.kheapEventsSpec.vars=ww:=by decide+kernel
theorem Qk5:(Rows.kheapEventsRow.stops==[])=ww:=by decide+kernel
theorem Qk6:(Tryz.prog.stops==[])=ww:=by decide+kernel
theorem Qk7:(Rows.kheapEventsRow.knobs==[])=ww:=by decide+kernel
theorem Qk8:(Tryz.prog.stopKnobs==[])=ww:=by decide+kernel
theorem Qk9:(Rows.kheapEventsRow.inPlace==Tryz.prog.inPlace 3)=ww:=by decide+kernel
theorem al1:(Rows.kheapEventsRow.unfollowed==Tryz.prog.unfollowed 3)=ww:=by decide+kernel
theorem al2:(Rows.kheapEventsRow.recurses==Tryz.prog.recurses 3)=ww:=by decide+kernel
theorem al3:(Rows.kheapEventsRow.named==Tryz.prog.varsNamed 3)=ww:=by decide+kernel
theorem al4:(Rows.kheapEventsRow.maps==(Tryz.f3.params.toList++Rows.kheapEventsSpec.plain.varTypes Tryz.prog).any (Tryz.prog.mapsRec ·))=ww:=by decide+kernel
theorem al5:(Rows.kheapEventsRow.ifaces==(Tryz.f3.params.toList++Rows.kheapEventsSpec.plain.varTypes Tryz.prog).any (Tryz.prog.ifacesRec ·))=ww:=by decide+kernel
theorem al6:(Rows.kheapEventsRow.mapsOut==Tryz.prog.mapsAmong Tryz.f3.resultTypes.toList)=ww:=by decide+kernel
theorem al7:(Rows.kheapEventsRow.loops==(Tryz.f3.params.toList++Rows.kheapEventsSpec.plain.varTypes Tryz.prog).any (Tryz.prog.loopsFrom ·))=ww:=by decide+kernel
theorem al8:(Rows.kheapEventsRow.wideKeys==(Tryz.f3.params.toList++Rows.kheapEventsSpec.plain.varTypes Tryz.prog++Tryz.f3.resultTypes.toList).any (Tryz.prog.wideKeysFrom ·))=ww:=by decide+kernel
theorem al9:Rows.kheapEventsSpec.vars.all (Tryz.prog.varReadable ·)=ww:=by decide+kernel
theorem al':Tryz.f3.resultTypes.all (fun t=>Tryz.prog.readableRec t&&decide (t<Tryz.prog.types.size))=ww:=by decide+kernel
theorem ama:(Rows.kheapEventsRow.ifacesOut==Tryz.f3.resultTypes.toList.any (Tryz.prog.ifacesRec ·))=ww:=by decide+kernel
theorem amb:(Rows.kheapEventsRow.loopsOut==Tryz.f3.resultTypes.toList.any (Tryz.prog.loopsFrom ·))=ww:=by decide+kernel
theorem amc:(Rows.kheapEventsRow.plainKeys==Tryz.prog.plainKeys)=ww:=by decide+kernel
theorem amd:Rows.kheapEventsRow.shortTexts.isNone=ww:=by decide+kernel
theorem ame:Tryz.prog.stopsHeard=ww:=by decide+kernel
theorem amf:Tryz.prog.mayEnter=ww:=by decide+kernel
theorem amg:(Rows.kheapEventsRow.lifted==Tryz.prog.liftsFinal)=ww:=by decide+kernel
theorem amh:(Tryz.prog.make==some Rows.kheapEventsRow.make)=ww:=by decide+kernel
theorem ami:(Rows.kheapEventsRow.kinds==(if Rows.kheapEventsRow.domain.isEmpty then [] else Tryz.f3.params.toList.map fun t=>match Tryz.prog.underlying t with|some (.int k)=>some k|_=>v6))=ww:=by decide+kernel
theorem amj:(Rows.kheapEventsRow.pinned==Rows.kheapEventsRow.pinnedBy)=ww:=by decide+kernel
theorem amk:(Rows.kheapEventsRow.veiled==(Tryz.f3.params.toList++Rows.kheapEventsSpec.plain.varTypes Tryz.prog++Tryz.f3.resultTypes.toList).any (Tryz.prog.veiledRec ·))=ww:=by decide+kernel
theorem aml:Rows.kheapEventsRow.veiledFits Tryz.prog Tryz.f3.params.toList (Tryz.f3.params.toList++Rows.kheapEventsSpec.plain.varTypes Tryz.prog++Tryz.f3.resultTypes.toList)=ww:=by decide+kernel
set_option maxRecDepth 100000 in
theorem Xa:joinedFacts Tryz.prog 3 Tryz.f3 Rows.kheapEventsSpec Rows.kheapEventsRow=ww:=(lR (lR (lR (lR (lR (lR (lR (lR (lR (lR (lR (lR (lR (lR (lR (lR (lR (lR (lR (lR (lR (lR (lR (lR (lR (lR (lR (lR (lR (lR (lR Qk0 Qk1) Qk2) Qk3) Qk4) Qk5) Qk6) Qk7) Qk8) Qk9) al1) al2) al3) al4) al5) al6) al7) al8) al9) al') ama) amb) amc) amd) ame) amf) amg) amh) ami) amj) amk) aml)
set_option maxRecDepth 100000 in
theorem Xb (os:Os) (started:os.Started) (H:Type) (enc:TypeId×Value->H):
 ReturnsInHanded {} Tryz.checked os 3 .any (Rows.kheapEventsSpec.pre6 enc Tryz.prog Tryz.f3 Rows.kheapEventsRow.domain false) (Rows.kheapEventsSpec.post enc Tryz.prog Tryz.f3 false ww false false):=by
 refine returnsInHanded_of_change (C:=Tryz.checked) al0 started (by kernel_rfl) Tryz.func3
  (ChangeSpec.witness6 (enc:=enc) (C:=Tryz.checked) false ⟨#[],#[.agg #[.int .i64 0,.int .i64 0,.slice v6 0 0,.int .i64 0,.slice v6 0 0,.slice v6 0 0,.slice v6 0 0,.slice v6 0 0,.slice v6 0 0,.slice v6 0 0,.slice v6 0 0,.slice v6 0 0],.agg #[.int .i64 0,.int .i64 0]],[]⟩ 16 (by kernel_rfl) (by kernel_rfl) (by kernel_rfl) (by kernel_rfl)) ?_
 intro W nF args ds gs before ahc hW Tu _;have Qy: ∀(j:Nat) t v,Tryz.f3.params[j]? =some t->args[j]? =some v->Value.okWide Tryz.prog W .any nF t v:=ahc;have hW':=hW;obtain ⟨p,q,hA0,hV,rfl,Pe,E7⟩:=hW;have hA:DataW.TrodAll enc Tryz.prog W 0 (fun _=>ww) ww Tryz.f3.params.toList args.toList ds p:=hA0;rw [Tryz.params3] at hA Qy;obtain ⟨v0,vs0,d0,ds0,p0,q0,jV,rfl,rfl,h0,r0⟩:=trodAll_cons hA;obtain ⟨v1,vs1,d1,ds1,p1,q1,rfl,rfl,rfl,h1,r1⟩:=trodAll_cons r0;obtain ⟨rfl,rfl,rfl⟩:=trodAll_nil r1;obtain rfl:args= #[v0,v1]:=by cases args;simp_all
 obtain ⟨rfl,rfl⟩:=trodVars_none hV;obtain ⟨_,g0,⟨a0,rfl,w0⟩,e0,k0⟩:=cp.afH adT Tryz.underlying41 (Qy 0 41 v0 rfl rfl) h0;obtain rfl:g0=(oz (kL.enc a0)).getD []:=by rw [e0];rfl
 obtain ⟨_,g1,⟨a1,rfl,w1⟩,e1,k1⟩:=cp.afH LZ Tryz.underlying23 (Qy 1 23 v1 rfl rfl) h1;obtain rfl:g1=(oz (RT.sv [.i .i64,.i .i64] a1)).getD []:=by rw [e1];rfl
 obtain ⟨n,s,z,bG⟩:=cM.ajp agN Rs (a:=(a0,a1)) (uZ a0 a1 (R4.of w0.kw.ii w0.kw.aa.ce) ⟨wf_i64 w1.1,wf_i64 w1.2⟩) (ps:=[.agg ((oz (kL.enc a0)).getD []),.agg ((oz (RT.sv [.i .i64,.i .i64] a1)).getD [])]) rfl rfl;refine (N0 (P:=Tryz.prog) (prims:=fun _=>ww) Wz Lv iw bG (us:=[v0,v1]) (w:=W) (.cons _ _ _ _ k0 (.cons _ _ _ _ k1 (.nil)))).mono fun e W' ⟨he,hb⟩=>?_
 subst he;exact ⟨_,rfl,P6 (P:=Tryz.prog) (bt:=4) Qk1 rfl rfl (by kernel_rfl) (by
  rw [Tryz.params3];intro t ht;simp only [List.mem_cons,List.not_mem_nil,or_false] at ht;rcases ht with rfl|rfl
  · exact aha
  exact ahb) hW' rfl hb⟩
theorem kheapEvents_holds:Rows.KheapEventsSaid:=
 OpenClaim.holds_of_wide 3 Tryz.f3 rfl rfl rfl rfl rfl rfl rfl ⟨rfl,rfl,rfl,rfl,rfl⟩ rfl rfl rfl rfl rfl (by kernel_rfl) Tryz.func3 Xa
  (of_decide_eq_true (by kernel_rfl)) (by unfold Func.isWrapper;first|(rw [rc (by decide+kernel)];kernel_rfl)|(rw [sp (by decide+kernel)];exact ⟨rfl,rfl⟩))
  (fun os started H enc _=>Xb os started H enc)
end Go.Proofs.YtmikolhhnhndkaaGreat
