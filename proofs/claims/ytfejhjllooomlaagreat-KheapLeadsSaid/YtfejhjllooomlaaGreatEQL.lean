/- The law KheapLeads returns true: its plain function gives true whatever comes in. -/
import Derived.Test.YtfejhjllooomlaaGreatRows
import Derived.Test.YtfejhjllooomlaaGreatEQS1
import Derived.Test.YtfejhjllooomlaaGreatEQM4
import Derived.Test.YtfejhjllooomlaaGreatEVm3
namespace Go.Proofs.YtfejhjllooomlaaGreat
open Go.ChangeShapes Go.WideShapes Go.ChangeAt Go.RowKit Go.Vm
theorem aPH:iR Tryz.prog 3 (oO [.i .i64]):=iR.int Tryz.underlying3
theorem X7:iR Tryz.prog 2 (oO [.i .i64]):=iR.int Tryz.underlying2
theorem aNE:iR Tryz.prog 76 (oO [.i .i64,.i .i64,.i .i64]):=(iR.struct (Ks:=[(oO [.i .i64]),(oO [.i .i64]),(oO [.i .i64])]) Tryz.underlying76 (gM.cons (by kernel_rfl) aPH (gM.cons (by kernel_rfl) X7 (gM.cons (by kernel_rfl) X7 (gM.nil)))) (by kernel_rfl)).mono (fun vs h=>HZ (rs:=[[.i .i64],[.i .i64],[.i .i64]]) h)
theorem aNF:iR Tryz.prog 24 (KSl [.i .i64,.i .i64,.i .i64]):=iR.slice (r:=[.i .i64,.i .i64,.i .i64]) Tryz.underlying24 aNE (by kernel_rfl) (by decide)
structure Field.WF (c:Field):Prop where
 points: ∀a∈c.points,RT.wf [.i .i64,.i .i64,.i .i64] a
def aIv:List SV->Prop:=fun vs=> ∃c:Field,vs=eH.enc c/\c.WF
theorem aNG:iR Tryz.prog 26 aIv:=(iR.struct (Ks:=[(KSl [.i .i64,.i .i64,.i .i64])]) Tryz.underlying26 (gM.cons (by kernel_rfl) aNF (gM.nil)) (by kernel_rfl)).mono (by
 rintro vs ⟨_,b0,rfl,⟨c0,rfl,w0⟩,rfl⟩;refine ⟨⟨c0⟩,?_,⟨w0⟩⟩;simp only [List.append_nil]
 rfl)
theorem aCj:iR Tryz.prog 23 (oO [.i .i64,.i .i64]):=(iR.struct (Ks:=[(oO [.i .i64]),(oO [.i .i64])]) Tryz.underlying23 (gM.cons (by kernel_rfl) X7 (gM.cons (by kernel_rfl) X7 (gM.nil))) (by kernel_rfl)).mono (fun vs h=>HZ (rs:=[[.i .i64],[.i .i64]]) h)
theorem aPI:Tryz.prog.readableRec 26=true/\26<Tryz.prog.types.size:=⟨by kernel_rfl,of_decide_eq_true (by kernel_rfl)⟩
theorem aI1:Tryz.prog.readableRec 23=true/\23<Tryz.prog.types.size:=⟨by kernel_rfl,of_decide_eq_true (by kernel_rfl)⟩
theorem aRm:ownKnob Tryz.prog.godebug=none:=by kernel_rfl
theorem oS {a b:Bool} (h:a=true) (k:b=true):(a&&b)=true:=by rw [h,k];rfl
theorem Qk0:Rows.kheapLeadsRow.wf (OpenSpec.ofChange Rows.kheapLeadsSpec)=true:=by decide+kernel
theorem Qk1:laidOutB Tryz.prog=true:=by decide+kernel
theorem Qk2:mapsRowed Tryz.prog=true:=by decide+kernel
theorem Qk3:Tryz.f4.params.all (Tryz.prog.readableRec ·)=true:=by decide+kernel
theorem Qk4:namedTie Tryz.prog Rows.kheapLeadsRow.named Rows.kheapLeadsSpec.vars=true:=by decide+kernel
theorem Qk5:(Rows.kheapLeadsRow.stops==[])=true:=by decide+kernel
theorem Qk6:(Tryz.prog.stops==[])=true:=by decide+kernel
theorem Qk7:(Rows.kheapLeadsRow.knobs==[])=true:=by decide+kernel
theorem Qk8:(Tryz.prog.stopKnobs==[])=true:=by decide+kernel
theorem Qk9:(Rows.kheapLeadsRow.inPlace==Tryz.prog.inPlace 4)=true:=by decide+kernel
theorem aRn:(Rows.kheapLeadsRow.unfollowed==Tryz.prog.unfollowed 4)=true:=by decide+kernel
theorem aRo:(Rows.kheapLeadsRow.recurses==Tryz.prog.recurses 4)=true:=by decide+kernel
theorem aRp:(Rows.kheapLeadsRow.named==Tryz.prog.varsNamed 4)=true:=by decide+kernel
theorem aRq:(Rows.kheapLeadsRow.maps==(Tryz.f4.params.toList++Rows.kheapLeadsSpec.plain.varTypes Tryz.prog).any (Tryz.prog.mapsRec ·))=true:=by decide+kernel
theorem aRr:(Rows.kheapLeadsRow.ifaces==(Tryz.f4.params.toList++Rows.kheapLeadsSpec.plain.varTypes Tryz.prog).any (Tryz.prog.ifacesRec ·))=true:=by decide+kernel
theorem aRs:(Rows.kheapLeadsRow.mapsOut==Tryz.prog.mapsAmong Tryz.f4.resultTypes.toList)=true:=by decide+kernel
theorem aRt:(Rows.kheapLeadsRow.loops==(Tryz.f4.params.toList++Rows.kheapLeadsSpec.plain.varTypes Tryz.prog).any (Tryz.prog.loopsFrom ·))=true:=by decide+kernel
theorem aRu:(Rows.kheapLeadsRow.wideKeys==(Tryz.f4.params.toList++Rows.kheapLeadsSpec.plain.varTypes Tryz.prog++Tryz.f4.resultTypes.toList).any (Tryz.prog.wideKeysFrom ·))=true:=by decide+kernel
theorem aRv:Rows.kheapLeadsSpec.vars.all (Tryz.prog.varReadable ·)=true:=by decide+kernel
theorem aRw:Tryz.f4.resultTypes.all (fun t=>Tryz.prog.readableRec t&&decide (t<Tryz.prog.types.size))=true:=by decide+kernel
theorem aRx:(Rows.kheapLeadsRow.ifacesOut==Tryz.f4.resultTypes.toList.any (Tryz.prog.ifacesRec ·))=true:=by decide+kernel
theorem aRy:(Rows.kheapLeadsRow.loopsOut==Tryz.f4.resultTypes.toList.any (Tryz.prog.loopsFrom ·))=true:=by decide+kernel
theorem aRz:(Rows.kheapLeadsRow.plainKeys==Tryz.prog.plainKeys)=true:=by decide+kernel
theorem aRA:Rows.kheapLeadsRow.shortTexts.isNone=true:=by decide+kernel
theorem aRB:Tryz.prog.stopsHeard=true:=by decide+kernel
theorem aRC:Tryz.prog.mayEnter=true:=by decide+kernel
theorem aRD:(Rows.kheapLeadsRow.lifted==Tryz.prog.liftsFinal)=true:=by decide+kernel
theorem aRE:(Tryz.prog.make==some Rows.kheapLeadsRow.make)=true:=by decide+kernel
theorem aRF:(Rows.kheapLeadsRow.kinds==(if Rows.kheapLeadsRow.domain.isEmpty then [] else Tryz.f4.params.toList.map fun t=>match Tryz.prog.underlying t with|some (.int k)=>some k|_=>none))=true:=by decide+kernel
theorem aRG:(Rows.kheapLeadsRow.pinned==Rows.kheapLeadsRow.pinnedBy)=true:=by decide+kernel
theorem aRH:(Rows.kheapLeadsRow.veiled==(Tryz.f4.params.toList++Rows.kheapLeadsSpec.plain.varTypes Tryz.prog++Tryz.f4.resultTypes.toList).any (Tryz.prog.veiledRec ·))=true:=by decide+kernel
theorem aRI:Rows.kheapLeadsRow.veiledFits Tryz.prog Tryz.f4.params.toList (Tryz.f4.params.toList++Rows.kheapLeadsSpec.plain.varTypes Tryz.prog++Tryz.f4.resultTypes.toList)=true:=by decide+kernel
set_option maxRecDepth 100000 in
theorem aIw:joinedFacts Tryz.prog 4 Tryz.f4 Rows.kheapLeadsSpec Rows.kheapLeadsRow=true:=(oS (oS (oS (oS (oS (oS (oS (oS (oS (oS (oS (oS (oS (oS (oS (oS (oS (oS (oS (oS (oS (oS (oS (oS (oS (oS (oS (oS (oS (oS (oS Qk0 Qk1) Qk2) Qk3) Qk4) Qk5) Qk6) Qk7) Qk8) Qk9) aRn) aRo) aRp) aRq) aRr) aRs) aRt) aRu) aRv) aRw) aRx) aRy) aRz) aRA) aRB) aRC) aRD) aRE) aRF) aRG) aRH) aRI)
set_option maxRecDepth 100000 in
theorem aIx (os:Os) (started:os.Started) (H:Type) (enc:TypeId×Value->H):
 ReturnsInHanded {} Tryz.checked os 4 .any (Rows.kheapLeadsSpec.pre6 enc Tryz.prog Tryz.f4 Rows.kheapLeadsRow.domain false) (Rows.kheapLeadsSpec.post enc Tryz.prog Tryz.f4 false true false false):=by
 refine returnsInHanded_of_change (C:=Tryz.checked) aRm started (by kernel_rfl) Tryz.func4
  (ChangeSpec.witness6 (enc:=enc) (C:=Tryz.checked) false ⟨#[],#[.agg #[.slice none 0 0],.agg #[.int .i64 0,.int .i64 0],.agg #[.int .i64 0,.int .i64 0]],[]⟩ 16 (by kernel_rfl) (by kernel_rfl) (by kernel_rfl) (by kernel_rfl)) ?_
 intro W base args ds gs before hval0 hW hcnd _;have hval: ∀(j:Nat) t v,Tryz.f4.params[j]? =some t->args[j]? =some v->Value.okWide Tryz.prog W .any base t v:=hval0;have hW':=hW;obtain ⟨p,q,hA0,hV,rfl,hfz,hnd⟩:=hW;have hA:DataW.TrodAll enc Tryz.prog W 0 (fun _=>true) true Tryz.f4.params.toList args.toList ds p:=hA0
 rw [Tryz.params4] at hA hval;obtain ⟨v0,vs0,d0,ds0,p0,q0,hargs,rfl,rfl,h0,r0⟩:=trodAll_cons hA;obtain ⟨v1,vs1,d1,ds1,p1,q1,rfl,rfl,rfl,h1,r1⟩:=trodAll_cons r0;obtain ⟨v2,vs2,d2,ds2,p2,q2,rfl,rfl,rfl,h2,r2⟩:=trodAll_cons r1;obtain ⟨rfl,rfl,rfl⟩:=trodAll_nil r2;obtain rfl:args= #[v0,v1,v2]:=by cases args;simp_all
 obtain ⟨rfl,rfl⟩:=trodVars_none hV;obtain ⟨_,g0,⟨a0,rfl,w0⟩,e0,k0⟩:=iR.argS aNG Tryz.underlying26 (hval 0 26 v0 rfl rfl) h0;obtain rfl:g0=(pvL (eH.enc a0)).getD []:=by rw [e0];rfl
 obtain ⟨_,g1,⟨a1,rfl,w1⟩,e1,k1⟩:=iR.argS aCj Tryz.underlying23 (hval 1 23 v1 rfl rfl) h1;obtain rfl:g1=(pvL (RT.sv [.i .i64,.i .i64] a1)).getD []:=by rw [e1];rfl
 obtain ⟨_,g2,⟨a2,rfl,w2⟩,e2,k2⟩:=iR.argS aCj Tryz.underlying23 (hval 2 23 v2 rfl rfl) h2;obtain rfl:g2=(pvL (RT.sv [.i .i64,.i .i64] a2)).getD []:=by rw [e2];rfl
 obtain ⟨n,s,z,hrun⟩:=aN.runA aPv aIU (a:=(a0,a1,a2)) (BU a0 a1 a2 ⟨CI w1.1,CI w1.2⟩ ⟨CI w2.1,CI w2.2⟩) (ps:=[.agg ((pvL (eH.enc a0)).getD []),.agg ((pvL (RT.sv [.i .i64,.i .i64] a1)).getD []),.agg ((pvL (RT.sv [.i .i64,.i .i64] a2)).getD [])]) rfl rfl
 refine (YT (P:=Tryz.prog) (prims:=fun _=>true) (TT.tabOK W5) (TT.primsOK W5) mR hrun (us:=[v0,v1,v2]) (w:=W) (.cons _ _ _ _ k0 (.cons _ _ _ _ k1 (.cons _ _ _ _ k2 (.nil))))).mono fun e W' ⟨he,hb⟩=>?_
 subst he;exact ⟨_,rfl,aAn (P:=Tryz.prog) (bt:=4) Qk1 rfl rfl (by kernel_rfl) (by
  rw [Tryz.params4];intro t ht;simp only [List.mem_cons,List.not_mem_nil,or_false] at ht;rcases ht with rfl|rfl|rfl
  · exact aPI
  · exact aI1
  · exact aI1) hW' rfl hb⟩
theorem kheapLeads_holds:Rows.KheapLeadsSaid:=
 OpenClaim.holds_of_wide 4 Tryz.f4 rfl rfl rfl rfl rfl rfl rfl ⟨rfl,rfl,rfl,rfl,rfl⟩ rfl rfl rfl rfl rfl (by kernel_rfl) Tryz.func4 aIw
  (of_decide_eq_true (by kernel_rfl)) (by unfold Func.isWrapper;first|(rw [if_pos (by decide+kernel)];kernel_rfl)|(rw [if_neg (by decide+kernel)];exact ⟨rfl,rfl⟩))
  (fun os started H enc _=>aIx os started H enc)
end Go.Proofs.YtfejhjllooomlaaGreat
