/- The law KtournEvents returns true: its plain function gives true whatever comes in. -/
import Derived.Test.YtlnclppkepgdmaaGreatRows
import Derived.Test.YtlnclppkepgdmaaGreatVQTB
import Derived.Test.YtlnclppkepgdmaaGreatVQM4
import Derived.Test.YtlnclppkepgdmaaGreatVVm3
open List renaming append_nil->pp
open Option renaming none->rc
open Bool renaming true->sp
namespace Go.Proofs.YtlnclppkepgdmaaGreat
open Go.ChangeShapes Go.WideShapes Go.ChangeAt Go.RowKit Go.Vm
theorem Qd:cz Tryz.prog 2 (gN [.i .i64]):=cz.int Tryz.underlying2
theorem Ko:cz Tryz.prog 23 (gN [.i .i64,.i .i64]):=(cz.struct (Ks:=[(gN [.i .i64]),(gN [.i .i64])]) Tryz.underlying23 (bg.cons (by kernel_rfl) Qd (bg.cons (by kernel_rfl) Qd (bg.nil))) (by kernel_rfl)).mono (fun vs h=>nD (rs:=[[.i .i64],[.i .i64]]) h)
theorem Au:cz Tryz.prog 3 (gN [.i .i64]):=cz.int Tryz.underlying3
theorem ajj:cz Tryz.prog 78 (gN [.i .i64,.i .i64,.i .i64]):=(cz.struct (Ks:=[(gN [.i .i64]),(gN [.i .i64]),(gN [.i .i64])]) Tryz.underlying78 (bg.cons (by kernel_rfl) Au (bg.cons (by kernel_rfl) Qd (bg.cons (by kernel_rfl) Qd (bg.nil)))) (by kernel_rfl)).mono (fun vs h=>nD (rs:=[[.i .i64],[.i .i64],[.i .i64]]) h)
theorem ajk:cz Tryz.prog 24 (LO [.i .i64,.i .i64,.i .i64]):=cz.slice (r:=[.i .i64,.i .i64,.i .i64]) Tryz.underlying24 ajj (by kernel_rfl) (by decide)
structure Field.WF (c:Field):Prop where
 am: ∀a∈c.am,RT.wf [.i .i64,.i .i64,.i .i64] a
def Qe:List SV->Prop:=fun vs=> ∃c:Field,vs=cC.enc c/\c.WF
theorem ajl:cz Tryz.prog 26 Qe:=(cz.struct (Ks:=[(LO [.i .i64,.i .i64,.i .i64])]) Tryz.underlying26 (bg.cons (by kernel_rfl) ajk (bg.nil)) (by kernel_rfl)).mono (by rintro vs ⟨_,b0,rfl,⟨c0,rfl,w0⟩,rfl⟩;refine ⟨⟨c0⟩,?_,⟨w0⟩⟩;simp only [pp];rfl)
theorem ajm:cz Tryz.prog 88 (gN [.i .i64,.i .i64]):=(cz.struct (Ks:=[(gN [.i .i64]),(gN [.i .i64])]) Tryz.underlying88 (bg.cons (by kernel_rfl) Au (bg.cons (by kernel_rfl) Au (bg.nil))) (by kernel_rfl)).mono (fun vs h=>nD (rs:=[[.i .i64],[.i .i64]]) h)
theorem ab':cz Tryz.prog 197 (gN [.i .i64,.i .i64,.i .i64]):=(cz.struct (Ks:=[(gN [.i .i64]),(gN [.i .i64,.i .i64])]) Tryz.underlying197 (bg.cons (by kernel_rfl) Au (bg.cons (by kernel_rfl) ajm (bg.nil))) (by kernel_rfl)).mono (fun vs h=>nD (rs:=[[.i .i64],[.i .i64,.i .i64]]) h)
theorem ajn:cz Tryz.prog 27 (LO [.i .i64,.i .i64,.i .i64]):=cz.slice (r:=[.i .i64,.i .i64,.i .i64]) Tryz.underlying27 ab' (by kernel_rfl) (by decide)
structure bm.WF (c:bm):Prop where
 aL:RT.wf [.i .i64] c.aL
 ce: ∀a∈c.ce,RT.wf [.i .i64,.i .i64,.i .i64] a
def Qf:List SV->Prop:=fun vs=> ∃c:bm,vs=lV.enc c/\c.WF
theorem ajo:cz Tryz.prog 29 Qf:=(cz.struct (Ks:=[(gN [.i .i64]),(LO [.i .i64,.i .i64,.i .i64])]) Tryz.underlying29 (bg.cons (by kernel_rfl) Au (bg.cons (by kernel_rfl) ajn (bg.nil))) (by kernel_rfl)).mono (by rintro vs ⟨_,b0,rfl,⟨c0,rfl,w0⟩,_,b1,rfl,⟨c1,rfl,w1⟩,rfl⟩;refine ⟨⟨c0,c1⟩,?_,⟨w0,w1⟩⟩;simp only [pp];rfl)
theorem Hs:cz Tryz.prog 30 (LO [.i .i64]):=cz.slice (r:=[.i .i64]) Tryz.underlying30 Au (by kernel_rfl) (by decide)
theorem amH:cz Tryz.prog 4 (gN [.b]):=cz.bool Tryz.underlying4
theorem ajp:cz Tryz.prog 31 (LO [.b]):=cz.slice (r:=[.b]) Tryz.underlying31 amH (by kernel_rfl) (by decide)
structure aS.WF (c:aS):Prop where
 az: ∀a∈c.az,RT.wf [.i .i64] a
 be: ∀a∈c.be,RT.wf [.b] a
 bi: ∀a∈c.bi,RT.wf [.i .i64] a
def Qg:List SV->Prop:=fun vs=> ∃c:aS,vs=la.enc c/\c.WF
theorem ajq:cz Tryz.prog 33 Qg:=(cz.struct (Ks:=[(LO [.i .i64]),(LO [.b]),(LO [.i .i64])]) Tryz.underlying33 (bg.cons (by kernel_rfl) Hs (bg.cons (by kernel_rfl) ajp (bg.cons (by kernel_rfl) Hs (bg.nil)))) (by kernel_rfl)).mono (by rintro vs ⟨_,b0,rfl,⟨c0,rfl,w0⟩,_,b1,rfl,⟨c1,rfl,w1⟩,_,b2,rfl,⟨c2,rfl,w2⟩,rfl⟩;refine ⟨⟨c0,c1,c2⟩,?_,⟨w0,w1,w2⟩⟩;simp only [pp];rfl)
theorem Qh:cz Tryz.prog 106 (gN [.i .i64,.i .i64]):=(cz.struct (Ks:=[(gN [.i .i64]),(gN [.i .i64])]) Tryz.underlying106 (bg.cons (by kernel_rfl) Au (bg.cons (by kernel_rfl) Au (bg.nil))) (by kernel_rfl)).mono (fun vs h=>nD (rs:=[[.i .i64],[.i .i64]]) h)
theorem aca:cz Tryz.prog 108 (gN [.i .i64,.i .i64,.i .i64,.i .i64,.i .i64]):=(cz.struct (Ks:=[(gN [.i .i64,.i .i64]),(gN [.i .i64]),(gN [.i .i64,.i .i64])]) Tryz.underlying108 (bg.cons (by kernel_rfl) Ko (bg.cons (by kernel_rfl) Au (bg.cons (by kernel_rfl) Qh (bg.nil)))) (by kernel_rfl)).mono (fun vs h=>nD (rs:=[[.i .i64,.i .i64],[.i .i64],[.i .i64,.i .i64]]) h)
theorem ajr:cz Tryz.prog 34 (LO [.i .i64,.i .i64,.i .i64,.i .i64,.i .i64]):=cz.slice (r:=[.i .i64,.i .i64,.i .i64,.i .i64,.i .i64]) Tryz.underlying34 aca (by kernel_rfl) (by decide)
structure aK.WF (c:aK):Prop where
 af:aS.WF c.af
 bv: ∀a∈c.bv,RT.wf [.i .i64,.i .i64,.i .i64,.i .i64,.i .i64] a
 aj: ∀a∈c.aj,RT.wf [.i .i64] a
def MS:List SV->Prop:=fun vs=> ∃c:aK,vs=eV.enc c/\c.WF
theorem ajs:cz Tryz.prog 36 MS:=(cz.struct (Ks:=[Qg,(LO [.i .i64,.i .i64,.i .i64,.i .i64,.i .i64]),(LO [.i .i64])]) Tryz.underlying36 (bg.cons (by kernel_rfl) ajq (bg.cons (by kernel_rfl) ajr (bg.cons (by kernel_rfl) Hs (bg.nil)))) (by kernel_rfl)).mono (by rintro vs ⟨_,b0,rfl,⟨c0,rfl,w0⟩,_,b1,rfl,⟨c1,rfl,w1⟩,_,b2,rfl,⟨c2,rfl,w2⟩,rfl⟩;refine ⟨⟨c0,c1,c2⟩,?_,⟨w0,w1,w2⟩⟩;simp only [pp];rfl)
theorem acb:cz Tryz.prog 141 (gN [.i .i64,.i .i64,.i .i64]):=(cz.struct (Ks:=[(gN [.i .i64]),(gN [.i .i64,.i .i64])]) Tryz.underlying141 (bg.cons (by kernel_rfl) Au (bg.cons (by kernel_rfl) Qh (bg.nil))) (by kernel_rfl)).mono (fun vs h=>nD (rs:=[[.i .i64],[.i .i64,.i .i64]]) h)
theorem ajt:cz Tryz.prog 37 (LO [.i .i64,.i .i64,.i .i64]):=cz.slice (r:=[.i .i64,.i .i64,.i .i64]) Tryz.underlying37 acb (by kernel_rfl) (by decide)
structure aI.WF (c:aI):Prop where
 ci:RT.wf [.i .i64,.i .i64] c.ci
 ii:Field.WF c.ii
 ai:bm.WF c.ai
 ae:aK.WF c.ae
 io: ∀a∈c.io,RT.wf [.i .i64,.i .i64,.i .i64] a
def Qi:List SV->Prop:=fun vs=> ∃c:aI,vs=cI.enc c/\c.WF
theorem aju:cz Tryz.prog 39 Qi:=(cz.struct (Ks:=[(gN [.i .i64,.i .i64]),Qe,Qf,MS,(LO [.i .i64,.i .i64,.i .i64])]) Tryz.underlying39 (bg.cons (by kernel_rfl) Ko (bg.cons (by kernel_rfl) ajl (bg.cons (by kernel_rfl) ajo (bg.cons (by kernel_rfl) ajs (bg.cons (by kernel_rfl) ajt (bg.nil)))))) (by kernel_rfl)).mono (by
 rintro vs ⟨_,b0,rfl,⟨c0,rfl,w0⟩,_,b1,rfl,⟨c1,rfl,w1⟩,_,b2,rfl,⟨c2,rfl,w2⟩,_,b3,rfl,⟨c3,rfl,w3⟩,_,b4,rfl,⟨c4,rfl,w4⟩,rfl⟩;refine ⟨⟨c0,c1,c2,c3,c4⟩,?_,⟨w0,w1,w2,w3,w4⟩⟩;simp only [pp];rfl)
structure bq.WF (c:bq):Prop where
 aW: ∀a∈c.aW,RT.wf [.i .i64] a
 jG: ∀a∈c.jG,RT.wf [.i .i64] a
def I5:List SV->Prop:=fun vs=> ∃c:bq,vs=fI.enc c/\c.WF
theorem ajv:cz Tryz.prog 41 I5:=(cz.struct (Ks:=[(LO [.i .i64]),(LO [.i .i64])]) Tryz.underlying41 (bg.cons (by kernel_rfl) Hs (bg.cons (by kernel_rfl) Hs (bg.nil))) (by kernel_rfl)).mono (by rintro vs ⟨_,b0,rfl,⟨c0,rfl,w0⟩,_,b1,rfl,⟨c1,rfl,w1⟩,rfl⟩;refine ⟨⟨c0,c1⟩,?_,⟨w0,w1⟩⟩;simp only [pp];rfl)
structure cV.WF (c:cV):Prop where
 jp:aI.WF c.jp
 kw:bq.WF c.kw
def Vz:List SV->Prop:=fun vs=> ∃c:cV,vs=iv.enc c/\c.WF
theorem ajw:cz Tryz.prog 43 Vz:=(cz.struct (Ks:=[Qi,I5]) Tryz.underlying43 (bg.cons (by kernel_rfl) aju (bg.cons (by kernel_rfl) ajv (bg.nil))) (by kernel_rfl)).mono (by rintro vs ⟨_,b0,rfl,⟨c0,rfl,w0⟩,_,b1,rfl,⟨c1,rfl,w1⟩,rfl⟩;refine ⟨⟨c0,c1⟩,?_,⟨w0,w1⟩⟩;simp only [pp];rfl)
theorem amI:Tryz.prog.readableRec 43=sp/\43<Tryz.prog.types.size:=⟨by kernel_rfl,of_decide_eq_true (by kernel_rfl)⟩
theorem adl:Tryz.prog.readableRec 23=sp/\23<Tryz.prog.types.size:=⟨by kernel_rfl,of_decide_eq_true (by kernel_rfl)⟩
theorem arG:ownKnob Tryz.prog.godebug=rc:=by kernel_rfl
theorem nk {a b:Bool} (h:a=sp) (k:b=sp):(a&&b)=sp:=by rw [h,k];rfl
theorem Qk0:Rows.ktournEventsRow.wf (OpenSpec.ofChange Rows.ktournEventsSpec)=sp:=by decide+kernel
theorem Qk1:laidOutB Tryz.prog=sp:=by decide+kernel
theorem Qk2:mapsRowed Tryz.prog=sp:=by decide+kernel
theorem Qk3:Tryz.f8.params.all (Tryz.prog.readableRec ·)=sp:=by decide+kernel
theorem Qk4:namedTie Tryz.prog Rows.ktournEventsRow.named Rows.ktournEventsSpec.vars=sp:=by decide+kernel
theorem Qk5:(Rows.ktournEventsRow.stops==[])=sp:=by decide+kernel
theorem Qk6:(Tryz.prog.stops==[])=sp:=by decide+kernel
theorem Qk7:(Rows.ktournEventsRow.knobs==[])=sp:=by decide+kernel
theorem Qk8:(Tryz.prog.stopKnobs==[])=sp:=by decide+kernel
theorem Qk9:(Rows.ktournEventsRow.inPlace==Tryz.prog.inPlace 8)=sp:=by decide+kernel
theorem arH:(Rows.ktournEventsRow.unfollowed==Tryz.prog.unfollowed 8)=sp:=by decide+kernel
theorem arI:(Rows.ktournEventsRow.recurses==Tryz.prog.recurses 8)=sp:=by decide+kernel
theorem arJ:(Rows.ktournEventsRow.named==Tryz.prog.varsNamed 8)=sp:=by decide+kernel
theorem arK:(Rows.ktournEventsRow.maps==(Tryz.f8.params.toList++Rows.ktournEventsSpec.plain.varTypes Tryz.prog).any (Tryz.prog.mapsRec ·))=sp:=by decide+kernel
theorem arL:(Rows.ktournEventsRow.ifaces==(Tryz.f8.params.toList++Rows.ktournEventsSpec.plain.varTypes Tryz.prog).any (Tryz.prog.ifacesRec ·))=sp:=by decide+kernel
theorem arM:(Rows.ktournEventsRow.mapsOut==Tryz.prog.mapsAmong Tryz.f8.resultTypes.toList)=sp:=by decide+kernel
theorem arN:(Rows.ktournEventsRow.loops==(Tryz.f8.params.toList++Rows.ktournEventsSpec.plain.varTypes Tryz.prog).any (Tryz.prog.loopsFrom ·))=sp:=by decide+kernel
theorem arO:(Rows.ktournEventsRow.wideKeys==(Tryz.f8.params.toList++Rows.ktournEventsSpec.plain.varTypes Tryz.prog++Tryz.f8.resultTypes.toList).any (Tryz.prog.wideKeysFrom ·))=sp:=by decide+kernel
theorem arP:Rows.ktournEventsSpec.vars.all (Tryz.prog.varReadable ·)=sp:=by decide+kernel
theorem arQ:Tryz.f8.resultTypes.all (fun t=>Tryz.prog.readableRec t&&decide (t<Tryz.prog.types.size))=sp:=by decide+kernel
theorem arR:(Rows.ktournEventsRow.ifacesOut==Tryz.f8.resultTypes.toList.any (Tryz.prog.ifacesRec ·))=sp:=by decide+kernel
theorem arS:(Rows.ktournEventsRow.loopsOut==Tryz.f8.resultTypes.toList.any (Tryz.prog.loopsFrom ·))=sp:=by decide+kernel
theorem arT:(Rows.ktournEventsRow.plainKeys==Tryz.prog.plainKeys)=sp:=by decide+kernel
theorem arU:Rows.ktournEventsRow.shortTexts.isNone=sp:=by decide+kernel
theorem arV:Tryz.prog.stopsHeard=sp:=by decide+kernel
theorem arW:Tryz.prog.mayEnter=sp:=by decide+kernel
theorem arX:(Rows.ktournEventsRow.lifted==Tryz.prog.liftsFinal)=sp:=by decide+kernel
theorem arY:(Tryz.prog.make==some Rows.ktournEventsRow.make)=sp:=by decide+kernel
theorem arZ:(Rows.ktournEventsRow.kinds==(if Rows.ktournEventsRow.domain.isEmpty then [] else Tryz.f8.params.toList.map fun t=>match Tryz.prog.underlying t with|some (.int k)=>some k|_=>rc))=sp:=by decide+kernel
theorem ar0:(Rows.ktournEventsRow.pinned==Rows.ktournEventsRow.pinnedBy)=sp:=by decide+kernel
theorem ar1:(Rows.ktournEventsRow.veiled==(Tryz.f8.params.toList++Rows.ktournEventsSpec.plain.varTypes Tryz.prog++Tryz.f8.resultTypes.toList).any (Tryz.prog.veiledRec ·))=sp:=by decide+kernel
theorem ar2:Rows.ktournEventsRow.veiledFits Tryz.prog Tryz.f8.params.toList (Tryz.f8.params.toList++Rows.ktournEventsSpec.plain.varTypes Tryz.prog++Tryz.f8.resultTypes.toList)=sp:=by decide+kernel
set_option maxRecDepth 100000 in
theorem acd:joinedFacts Tryz.prog 8 Tryz.f8 Rows.ktournEventsSpec Rows.ktournEventsRow=sp:=(nk (nk (nk (nk (nk (nk (nk (nk (nk (nk (nk (nk (nk (nk (nk (nk (nk (nk (nk (nk (nk (nk (nk (nk (nk (nk (nk (nk (nk (nk (nk Qk0 Qk1) Qk2) Qk3) Qk4) Qk5) Qk6) Qk7) Qk8) Qk9) arH) arI) arJ) arK) arL) arM) arN) arO) arP) arQ) arR) arS) arT) arU) arV) arW) arX) arY) arZ) ar0) ar1) ar2)
set_option maxRecDepth 100000 in
theorem ace (os:Os) (started:os.Started) (H:Type) (enc:TypeId×Value->H):
 ReturnsInHanded {} Tryz.checked os 8 .any (Rows.ktournEventsSpec.pre6 enc Tryz.prog Tryz.f8 Rows.ktournEventsRow.domain false) (Rows.ktournEventsSpec.post enc Tryz.prog Tryz.f8 false sp false false):=by
 refine returnsInHanded_of_change (C:=Tryz.checked) arG started (by kernel_rfl) Tryz.func8
  (ChangeSpec.witness6 (enc:=enc) (C:=Tryz.checked) false ⟨#[],#[.agg #[.int .i64 0,.int .i64 0,.slice rc 0 0,.int .i64 0,.slice rc 0 0,.slice rc 0 0,.slice rc 0 0,.slice rc 0 0,.slice rc 0 0,.slice rc 0 0,.slice rc 0 0,.slice rc 0 0,.slice rc 0 0],.agg #[.int .i64 0,.int .i64 0],.agg #[.int .i64 0,.int .i64 0]],[]⟩ 16 (by kernel_rfl) (by kernel_rfl) (by kernel_rfl) (by kernel_rfl)) ?_
 intro W oS args ds gs before amJ hW Ww _;have Q8: ∀(j:Nat) t v,Tryz.f8.params[j]? =some t->args[j]? =some v->Value.okWide Tryz.prog W .any oS t v:=amJ;have hW':=hW;obtain ⟨p,q,hA0,hV,rfl,Sp,Hv⟩:=hW;have hA:DataW.TrodAll enc Tryz.prog W 0 (fun _=>sp) sp Tryz.f8.params.toList args.toList ds p:=hA0;rw [Tryz.params8] at hA Q8;obtain ⟨v0,vs0,d0,ds0,p0,q0,k7,rfl,rfl,h0,r0⟩:=trodAll_cons hA;obtain ⟨v1,vs1,d1,ds1,p1,q1,rfl,rfl,rfl,h1,r1⟩:=trodAll_cons r0;obtain ⟨v2,vs2,d2,ds2,p2,q2,rfl,rfl,rfl,h2,r2⟩:=trodAll_cons r1;obtain ⟨rfl,rfl,rfl⟩:=trodAll_nil r2;obtain rfl:args= #[v0,v1,v2]:=by cases args;simp_all
 obtain ⟨rfl,rfl⟩:=trodVars_none hV;obtain ⟨_,g0,⟨a0,rfl,w0⟩,e0,k0⟩:=cz.aeo ajw Tryz.underlying43 (Q8 0 43 v0 rfl rfl) h0;obtain rfl:g0=(oX (iv.enc a0)).getD []:=by rw [e0];rfl
 obtain ⟨_,g1,⟨a1,rfl,w1⟩,e1,k1⟩:=cz.aeo Ko Tryz.underlying23 (Q8 1 23 v1 rfl rfl) h1;obtain rfl:g1=(oX (RT.sv [.i .i64,.i .i64] a1)).getD []:=by rw [e1];rfl
 obtain ⟨_,g2,⟨a2,rfl,w2⟩,e2,k2⟩:=cz.aeo Ko Tryz.underlying23 (Q8 2 23 v2 rfl rfl) h2;obtain rfl:g2=(oX (RT.sv [.i .i64,.i .i64] a2)).getD []:=by rw [e2];rfl
 obtain ⟨n,s,z,bP⟩:=cN.aoT amr UO (a:=(a0,a1,a2)) (vQ a0 a1 a2 (OF.of w0.jp.ci w0.jp.ae.bv) ⟨wf_i64 w1.1,wf_i64 w1.2⟩ ⟨wf_i64 w2.1,wf_i64 w2.2⟩) (ps:=[.agg ((oX (iv.enc a0)).getD []),.agg ((oX (RT.sv [.i .i64,.i .i64] a1)).getD []),.agg ((oX (RT.sv [.i .i64,.i .i64] a2)).getD [])]) rfl rfl;refine (QW (P:=Tryz.prog) (prims:=fun _=>sp) abD Oc jj bP (us:=[v0,v1,v2]) (w:=W) (.cons _ _ _ _ k0 (.cons _ _ _ _ k1 (.cons _ _ _ _ k2 (.nil))))).mono fun e W' ⟨he,hb⟩=>?_
 subst he;exact ⟨_,rfl,Tg (P:=Tryz.prog) (bt:=4) Qk1 rfl rfl (by kernel_rfl) (by
  rw [Tryz.params8];intro t ht;simp only [List.mem_cons,List.not_mem_nil,or_false] at ht;rcases ht with rfl|rfl|rfl
  · exact amI
  · exact adl
  exact adl) hW' rfl hb⟩
theorem ktournEvents_holds:Rows.KtournEventsSaid:=
 OpenClaim.holds_of_wide 8 Tryz.f8 rfl rfl rfl rfl rfl rfl rfl ⟨rfl,rfl,rfl,rfl,rfl⟩ rfl rfl rfl rfl rfl (by kernel_rfl) Tryz.func8 acd
  (of_decide_eq_true (by kernel_rfl)) (by unfold Func.isWrapper;first|(rw [ls (by decide+kernel)];kernel_rfl)|(rw [lw (by decide+kernel)];exact ⟨rfl,rfl⟩))
  (fun os started H enc _=>ace os started H enc)
end Go.Proofs.YtlnclppkepgdmaaGreat
