/- The law HangerHangs returns true: its plain function gives true whatever comes in. -/
import Derived.Test.YtbncnimfgdelaaaGreatRows
import Derived.Test.YtbncnimfgdelaaaGreatFEQS1
import Derived.Test.YtbncnimfgdelaaaGreatFEQM4
import Derived.Test.YtbncnimfgdelaaaGreatFEVm3
namespace Go.Proofs.YtbncnimfgdelaaaGreat
open Go.ChangeShapes Go.WideShapes Go.ChangeAt Go.RowKit Go.Vm
theorem aNF:iI Tryz.prog 3 (nB [.i .i64]):=iI.int Tryz.underlying3
theorem V8:iI Tryz.prog 2 (nB [.i .i64]):=iI.int Tryz.underlying2
theorem aLx:iI Tryz.prog 67 (nB [.i .i64,.i .i64,.i .i64]):=(iI.struct (Ks:=[(nB [.i .i64]),(nB [.i .i64]),(nB [.i .i64])]) Tryz.underlying67 (fV.cons (by kernel_rfl) aNF (fV.cons (by kernel_rfl) V8 (fV.cons (by kernel_rfl) V8 (fV.nil)))) (by kernel_rfl)).mono (fun vs h=>GB (rs:=[[.i .i64],[.i .i64],[.i .i64]]) h)
theorem aLy:iI Tryz.prog 22 (KSl [.i .i64,.i .i64,.i .i64]):=iI.slice (r:=[.i .i64,.i .i64,.i .i64]) Tryz.underlying22 aLx (by kernel_rfl) (by decide)
structure Field.WF (c:Field):Prop where
 points: ∀a∈c.points,RT.wf [.i .i64,.i .i64,.i .i64] a
def aGQ:List SV->Prop:=fun vs=> ∃c:Field,vs=dB.enc c/\c.WF
theorem aLz:iI Tryz.prog 24 aGQ:=(iI.struct (Ks:=[(KSl [.i .i64,.i .i64,.i .i64])]) Tryz.underlying24 (fV.cons (by kernel_rfl) aLy (fV.nil)) (by kernel_rfl)).mono (by
 rintro vs ⟨_,b0,rfl,⟨c0,rfl,w0⟩,rfl⟩;refine ⟨⟨c0⟩,?_,⟨w0⟩⟩;simp only [List.append_nil]
 rfl)
theorem aLA:iI Tryz.prog 26 (nB [.i .i64,.i .i64]):=(iI.struct (Ks:=[(nB [.i .i64]),(nB [.i .i64])]) Tryz.underlying26 (fV.cons (by kernel_rfl) V8 (fV.cons (by kernel_rfl) V8 (fV.nil))) (by kernel_rfl)).mono (fun vs h=>GB (rs:=[[.i .i64],[.i .i64]]) h)
theorem aNG:Tryz.prog.readableRec 24=true/\24<Tryz.prog.types.size:=⟨by kernel_rfl,of_decide_eq_true (by kernel_rfl)⟩
theorem aNH:Tryz.prog.readableRec 26=true/\26<Tryz.prog.types.size:=⟨by kernel_rfl,of_decide_eq_true (by kernel_rfl)⟩
theorem aO0:ownKnob Tryz.prog.godebug=none:=by kernel_rfl
theorem nC {a b:Bool} (h:a=true) (k:b=true):(a&&b)=true:=by rw [h,k];rfl
theorem Qk0:Rows.hangerHangsRow.wf (OpenSpec.ofChange Rows.hangerHangsSpec)=true:=by decide+kernel
theorem Qk1:laidOutB Tryz.prog=true:=by decide+kernel
theorem Qk2:mapsRowed Tryz.prog=true:=by decide+kernel
theorem Qk3:Tryz.f4.params.all (Tryz.prog.readableRec ·)=true:=by decide+kernel
theorem Qk4:namedTie Tryz.prog Rows.hangerHangsRow.named Rows.hangerHangsSpec.vars=true:=by decide+kernel
theorem Qk5:(Rows.hangerHangsRow.stops==[])=true:=by decide+kernel
theorem Qk6:(Tryz.prog.stops==[])=true:=by decide+kernel
theorem Qk7:(Rows.hangerHangsRow.knobs==[])=true:=by decide+kernel
theorem Qk8:(Tryz.prog.stopKnobs==[])=true:=by decide+kernel
theorem Qk9:(Rows.hangerHangsRow.inPlace==Tryz.prog.inPlace 4)=true:=by decide+kernel
theorem aO1:(Rows.hangerHangsRow.unfollowed==Tryz.prog.unfollowed 4)=true:=by decide+kernel
theorem aO2:(Rows.hangerHangsRow.recurses==Tryz.prog.recurses 4)=true:=by decide+kernel
theorem aO3:(Rows.hangerHangsRow.named==Tryz.prog.varsNamed 4)=true:=by decide+kernel
theorem aO4:(Rows.hangerHangsRow.maps==(Tryz.f4.params.toList++Rows.hangerHangsSpec.plain.varTypes Tryz.prog).any (Tryz.prog.mapsRec ·))=true:=by decide+kernel
theorem aO5:(Rows.hangerHangsRow.ifaces==(Tryz.f4.params.toList++Rows.hangerHangsSpec.plain.varTypes Tryz.prog).any (Tryz.prog.ifacesRec ·))=true:=by decide+kernel
theorem aO6:(Rows.hangerHangsRow.mapsOut==Tryz.prog.mapsAmong Tryz.f4.resultTypes.toList)=true:=by decide+kernel
theorem aO7:(Rows.hangerHangsRow.loops==(Tryz.f4.params.toList++Rows.hangerHangsSpec.plain.varTypes Tryz.prog).any (Tryz.prog.loopsFrom ·))=true:=by decide+kernel
theorem aO8:(Rows.hangerHangsRow.wideKeys==(Tryz.f4.params.toList++Rows.hangerHangsSpec.plain.varTypes Tryz.prog++Tryz.f4.resultTypes.toList).any (Tryz.prog.wideKeysFrom ·))=true:=by decide+kernel
theorem aO9:Rows.hangerHangsSpec.vars.all (Tryz.prog.varReadable ·)=true:=by decide+kernel
theorem aPa:Tryz.f4.resultTypes.all (fun t=>Tryz.prog.readableRec t&&decide (t<Tryz.prog.types.size))=true:=by decide+kernel
theorem aPb:(Rows.hangerHangsRow.ifacesOut==Tryz.f4.resultTypes.toList.any (Tryz.prog.ifacesRec ·))=true:=by decide+kernel
theorem aPc:(Rows.hangerHangsRow.loopsOut==Tryz.f4.resultTypes.toList.any (Tryz.prog.loopsFrom ·))=true:=by decide+kernel
theorem aPd:(Rows.hangerHangsRow.plainKeys==Tryz.prog.plainKeys)=true:=by decide+kernel
theorem aPe:Rows.hangerHangsRow.shortTexts.isNone=true:=by decide+kernel
theorem aPf:Tryz.prog.stopsHeard=true:=by decide+kernel
theorem aPg:Tryz.prog.mayEnter=true:=by decide+kernel
theorem aPh:(Rows.hangerHangsRow.lifted==Tryz.prog.liftsFinal)=true:=by decide+kernel
theorem aPi:(Tryz.prog.make==some Rows.hangerHangsRow.make)=true:=by decide+kernel
theorem aPj:(Rows.hangerHangsRow.kinds==(if Rows.hangerHangsRow.domain.isEmpty then [] else Tryz.f4.params.toList.map fun t=>match Tryz.prog.underlying t with|some (.int k)=>some k|_=>none))=true:=by decide+kernel
theorem aPk:(Rows.hangerHangsRow.pinned==Rows.hangerHangsRow.pinnedBy)=true:=by decide+kernel
theorem aPl:(Rows.hangerHangsRow.veiled==(Tryz.f4.params.toList++Rows.hangerHangsSpec.plain.varTypes Tryz.prog++Tryz.f4.resultTypes.toList).any (Tryz.prog.veiledRec ·))=true:=by decide+kernel
theorem aPm:Rows.hangerHangsRow.veiledFits Tryz.prog Tryz.f4.params.toList (Tryz.f4.params.toList++Rows.hangerHangsSpec.plain.varTypes Tryz.prog++Tryz.f4.resultTypes.toList)=true:=by decide+kernel
set_option maxRecDepth 100000 in
theorem aGR:joinedFacts Tryz.prog 4 Tryz.f4 Rows.hangerHangsSpec Rows.hangerHangsRow=true:=(nC (nC (nC (nC (nC (nC (nC (nC (nC (nC (nC (nC (nC (nC (nC (nC (nC (nC (nC (nC (nC (nC (nC (nC (nC (nC (nC (nC (nC (nC (nC Qk0 Qk1) Qk2) Qk3) Qk4) Qk5) Qk6) Qk7) Qk8) Qk9) aO1) aO2) aO3) aO4) aO5) aO6) aO7) aO8) aO9) aPa) aPb) aPc) aPd) aPe) aPf) aPg) aPh) aPi) aPj) aPk) aPl) aPm)
set_option maxRecDepth 100000 in
theorem aGS (os:Os) (started:os.Started) (H:Type) (enc:TypeId×Value->H):
 ReturnsInHanded {} Tryz.checked os 4 .any (Rows.hangerHangsSpec.pre6 enc Tryz.prog Tryz.f4 Rows.hangerHangsRow.domain false) (Rows.hangerHangsSpec.post enc Tryz.prog Tryz.f4 false true false false):=by
 refine returnsInHanded_of_change (C:=Tryz.checked) aO0 started (by kernel_rfl) Tryz.func4
  (ChangeSpec.witness6 (enc:=enc) (C:=Tryz.checked) false ⟨#[],#[.agg #[.slice none 0 0],.agg #[.int .i64 0,.int .i64 0]],[]⟩ 16 (by kernel_rfl) (by kernel_rfl) (by kernel_rfl) (by kernel_rfl)) ?_
 intro W base args ds gs before hval0 hW hcnd _;have hval: ∀(j:Nat) t v,Tryz.f4.params[j]? =some t->args[j]? =some v->Value.okWide Tryz.prog W .any base t v:=hval0;have hW':=hW;obtain ⟨p,q,hA0,hV,rfl,hfz,hnd⟩:=hW;have hA:DataW.TrodAll enc Tryz.prog W 0 (fun _=>true) true Tryz.f4.params.toList args.toList ds p:=hA0
 rw [Tryz.params4] at hA hval;obtain ⟨v0,vs0,d0,ds0,p0,q0,hargs,rfl,rfl,h0,r0⟩:=trodAll_cons hA;obtain ⟨v1,vs1,d1,ds1,p1,q1,rfl,rfl,rfl,h1,r1⟩:=trodAll_cons r0;obtain ⟨rfl,rfl,rfl⟩:=trodAll_nil r1;obtain rfl:args= #[v0,v1]:=by cases args;simp_all
 obtain ⟨rfl,rfl⟩:=trodVars_none hV;obtain ⟨_,g0,⟨a0,rfl,w0⟩,e0,k0⟩:=iI.argS aLz Tryz.underlying24 (hval 0 24 v0 rfl rfl) h0;obtain rfl:g0=(pvL (dB.enc a0)).getD []:=by rw [e0];rfl
 obtain ⟨_,g1,⟨a1,rfl,w1⟩,e1,k1⟩:=iI.argS aLA Tryz.underlying26 (hval 1 26 v1 rfl rfl) h1;obtain rfl:g1=(pvL (RT.sv [.i .i64,.i .i64] a1)).getD []:=by rw [e1];rfl
 obtain ⟨n,s,z,hrun⟩:=aI.runA aNw aHg (a:=(a0,a1)) (yP a0 a1 ⟨GC w1.1,GC w1.2⟩) (ps:=[.agg ((pvL (dB.enc a0)).getD []),.agg ((pvL (RT.sv [.i .i64,.i .i64] a1)).getD [])]) rfl rfl
 refine (WY (P:=Tryz.prog) (prims:=fun _=>true) (TT.tabOK U7) (TT.primsOK U7) lN hrun (us:=[v0,v1]) (w:=W) (.cons _ _ _ _ k0 (.cons _ _ _ _ k1 (.nil)))).mono fun e W' ⟨he,hb⟩=>?_
 subst he;exact ⟨_,rfl,YR (P:=Tryz.prog) (bt:=4) Qk1 rfl rfl (by kernel_rfl) (by
  rw [Tryz.params4];intro t ht;simp only [List.mem_cons,List.not_mem_nil,or_false] at ht;rcases ht with rfl|rfl
  · exact aNG
  · exact aNH) hW' rfl hb⟩
theorem hangerHangs_holds:Rows.HangerHangsSaid:=
 OpenClaim.holds_of_wide 4 Tryz.f4 rfl rfl rfl rfl rfl rfl rfl ⟨rfl,rfl,rfl,rfl,rfl⟩ rfl rfl rfl rfl rfl (by kernel_rfl) Tryz.func4 aGR
  (of_decide_eq_true (by kernel_rfl)) (by unfold Func.isWrapper;first|(rw [if_pos (by decide+kernel)];kernel_rfl)|(rw [if_neg (by decide+kernel)];exact ⟨rfl,rfl⟩))
  (fun os started H enc _=>aGS os started H enc)
end Go.Proofs.YtbncnimfgdelaaaGreat
