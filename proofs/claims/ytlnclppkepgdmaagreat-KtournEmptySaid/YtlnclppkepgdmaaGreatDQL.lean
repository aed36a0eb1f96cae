/- The law KtournEmpty returns true: its plain function gives true whatever comes in. -/
import Derived.Test.YtlnclppkepgdmaaGreatRows
import Derived.Test.YtlnclppkepgdmaaGreatDQS2
import Derived.Test.YtlnclppkepgdmaaGreatDQM5
import Derived.Test.YtlnclppkepgdmaaGreatDVm3
namespace Go.Proofs.YtlnclppkepgdmaaGreat
open Go.ChangeShapes Go.WideShapes Go.ChangeAt Go.RowKit Go.Vm
theorem aXW:jM Tryz.prog 3 (qW [.i .i64]):=jM.int Tryz.underlying3
theorem aDs:jM Tryz.prog 2 (qW [.i .i64]):=jM.int Tryz.underlying2
theorem aVy:jM Tryz.prog 78 (qW [.i .i64,.i .i64,.i .i64]):=(jM.struct (Ks:=[(qW [.i .i64]),(qW [.i .i64]),(qW [.i .i64])]) Tryz.underlying78 (iJ.cons (by kernel_rfl) aXW (iJ.cons (by kernel_rfl) aDs (iJ.cons (by kernel_rfl) aDs (iJ.nil)))) (by kernel_rfl)).mono (fun vs h=>L6 (rs:=[[.i .i64],[.i .i64],[.i .i64]]) h)
theorem aVz:jM Tryz.prog 24 (KSl [.i .i64,.i .i64,.i .i64]):=jM.slice (r:=[.i .i64,.i .i64,.i .i64]) Tryz.underlying24 aVy (by kernel_rfl) (by decide)
structure Field.WF (c:Field):Prop where
 aa: ∀a∈c.aa,RT.wf [.i .i64,.i .i64,.i .i64] a
def aOS:List SV->Prop:=fun vs=> ∃c:Field,vs=cB.enc c/\c.WF
theorem aVA:jM Tryz.prog 26 aOS:=(jM.struct (Ks:=[(KSl [.i .i64,.i .i64,.i .i64])]) Tryz.underlying26 (iJ.cons (by kernel_rfl) aVz (iJ.nil)) (by kernel_rfl)).mono (by
 rintro vs ⟨_,b0,rfl,⟨c0,rfl,w0⟩,rfl⟩;refine ⟨⟨c0⟩,?_,⟨w0⟩⟩;simp only [List.append_nil]
 rfl)
theorem aHe:jM Tryz.prog 23 (qW [.i .i64,.i .i64]):=(jM.struct (Ks:=[(qW [.i .i64]),(qW [.i .i64])]) Tryz.underlying23 (iJ.cons (by kernel_rfl) aDs (iJ.cons (by kernel_rfl) aDs (iJ.nil))) (by kernel_rfl)).mono (fun vs h=>L6 (rs:=[[.i .i64],[.i .i64]]) h)
theorem aXX:Tryz.prog.readableRec 26=true/\26<Tryz.prog.types.size:=⟨by kernel_rfl,of_decide_eq_true (by kernel_rfl)⟩
theorem aPp:Tryz.prog.readableRec 23=true/\23<Tryz.prog.types.size:=⟨by kernel_rfl,of_decide_eq_true (by kernel_rfl)⟩
theorem aZS:Tryz.prog.readableRec 3=true/\3<Tryz.prog.types.size:=⟨by kernel_rfl,of_decide_eq_true (by kernel_rfl)⟩
theorem aZT:ownKnob Tryz.prog.godebug=none:=by kernel_rfl
theorem rC {a b:Bool} (h:a=true) (k:b=true):(a&&b)=true:=by rw [h,k];rfl
theorem Qk0:Rows.ktournEmptyRow.wf (OpenSpec.ofChange Rows.ktournEmptySpec)=true:=by decide+kernel
theorem Qk1:laidOutB Tryz.prog=true:=by decide+kernel
theorem Qk2:mapsRowed Tryz.prog=true:=by decide+kernel
theorem Qk3:Tryz.f6.params.all (Tryz.prog.readableRec ·)=true:=by decide+kernel
theorem Qk4:namedTie Tryz.prog Rows.ktournEmptyRow.named Rows.ktournEmptySpec.vars=true:=by decide+kernel
theorem Qk5:(Rows.ktournEmptyRow.stops==[])=true:=by decide+kernel
theorem Qk6:(Tryz.prog.stops==[])=true:=by decide+kernel
theorem Qk7:(Rows.ktournEmptyRow.knobs==[])=true:=by decide+kernel
theorem Qk8:(Tryz.prog.stopKnobs==[])=true:=by decide+kernel
theorem Qk9:(Rows.ktournEmptyRow.inPlace==Tryz.prog.inPlace 6)=true:=by decide+kernel
theorem aZU:(Rows.ktournEmptyRow.unfollowed==Tryz.prog.unfollowed 6)=true:=by decide+kernel
theorem aZV:(Rows.ktournEmptyRow.recurses==Tryz.prog.recurses 6)=true:=by decide+kernel
theorem aZW:(Rows.ktournEmptyRow.named==Tryz.prog.varsNamed 6)=true:=by decide+kernel
theorem aZX:(Rows.ktournEmptyRow.maps==(Tryz.f6.params.toList++Rows.ktournEmptySpec.plain.varTypes Tryz.prog).any (Tryz.prog.mapsRec ·))=true:=by decide+kernel
theorem aZY:(Rows.ktournEmptyRow.ifaces==(Tryz.f6.params.toList++Rows.ktournEmptySpec.plain.varTypes Tryz.prog).any (Tryz.prog.ifacesRec ·))=true:=by decide+kernel
theorem aZZ:(Rows.ktournEmptyRow.mapsOut==Tryz.prog.mapsAmong Tryz.f6.resultTypes.toList)=true:=by decide+kernel
theorem aZ0:(Rows.ktournEmptyRow.loops==(Tryz.f6.params.toList++Rows.ktournEmptySpec.plain.varTypes Tryz.prog).any (Tryz.prog.loopsFrom ·))=true:=by decide+kernel
theorem aZ1:(Rows.ktournEmptyRow.wideKeys==(Tryz.f6.params.toList++Rows.ktournEmptySpec.plain.varTypes Tryz.prog++Tryz.f6.resultTypes.toList).any (Tryz.prog.wideKeysFrom ·))=true:=by decide+kernel
theorem aZ2:Rows.ktournEmptySpec.vars.all (Tryz.prog.varReadable ·)=true:=by decide+kernel
theorem aZ3:Tryz.f6.resultTypes.all (fun t=>Tryz.prog.readableRec t&&decide (t<Tryz.prog.types.size))=true:=by decide+kernel
theorem aZ4:(Rows.ktournEmptyRow.ifacesOut==Tryz.f6.resultTypes.toList.any (Tryz.prog.ifacesRec ·))=true:=by decide+kernel
theorem aZ5:(Rows.ktournEmptyRow.loopsOut==Tryz.f6.resultTypes.toList.any (Tryz.prog.loopsFrom ·))=true:=by decide+kernel
theorem aZ6:(Rows.ktournEmptyRow.plainKeys==Tryz.prog.plainKeys)=true:=by decide+kernel
theorem aZ7:Rows.ktournEmptyRow.shortTexts.isNone=true:=by decide+kernel
theorem aZ8:Tryz.prog.stopsHeard=true:=by decide+kernel
theorem aZ9:Tryz.prog.mayEnter=true:=by decide+kernel
theorem a0a:(Rows.ktournEmptyRow.lifted==Tryz.prog.liftsFinal)=true:=by decide+kernel
theorem a0b:(Tryz.prog.make==some Rows.ktournEmptyRow.make)=true:=by decide+kernel
theorem a0c:(Rows.ktournEmptyRow.kinds==(if Rows.ktournEmptyRow.domain.isEmpty then [] else Tryz.f6.params.toList.map fun t=>match Tryz.prog.underlying t with|some (.int k)=>some k|_=>none))=true:=by decide+kernel
theorem a0d:(Rows.ktournEmptyRow.pinned==Rows.ktournEmptyRow.pinnedBy)=true:=by decide+kernel
theorem a0e:(Rows.ktournEmptyRow.veiled==(Tryz.f6.params.toList++Rows.ktournEmptySpec.plain.varTypes Tryz.prog++Tryz.f6.resultTypes.toList).any (Tryz.prog.veiledRec ·))=true:=by decide+kernel
theorem a0f:Rows.ktournEmptyRow.veiledFits Tryz.prog Tryz.f6.params.toList (Tryz.f6.params.toList++Rows.ktournEmptySpec.plain.varTypes Tryz.prog++Tryz.f6.resultTypes.toList)=true:=by decide+kernel
set_option maxRecDepth 100000 in
theorem aOT:joinedFacts Tryz.prog 6 Tryz.f6 Rows.ktournEmptySpec Rows.ktournEmptyRow=true:=(rC (rC (rC (rC (rC (rC (rC (rC (rC (rC (rC (rC (rC (rC (rC (rC (rC (rC (rC (rC (rC (rC (rC (rC (rC (rC (rC (rC (rC (rC (rC Qk0 Qk1) Qk2) Qk3) Qk4) Qk5) Qk6) Qk7) Qk8) Qk9) aZU) aZV) aZW) aZX) aZY) aZZ) aZ0) aZ1) aZ2) aZ3) aZ4) aZ5) aZ6) aZ7) aZ8) aZ9) a0a) a0b) a0c) a0d) a0e) a0f)
set_option maxRecDepth 100000 in
theorem aOU (os:Os) (started:os.Started) (H:Type) (enc:TypeId×Value->H):
 ReturnsInHanded {} Tryz.checked os 6 .any (Rows.ktournEmptySpec.pre6 enc Tryz.prog Tryz.f6 Rows.ktournEmptyRow.domain false) (Rows.ktournEmptySpec.post enc Tryz.prog Tryz.f6 false true false false):=by
 refine returnsInHanded_of_change (C:=Tryz.checked) aZT started (by kernel_rfl) Tryz.func6
  (ChangeSpec.witness6 (enc:=enc) (C:=Tryz.checked) false ⟨#[],#[.agg #[.slice none 0 0],.agg #[.int .i64 0,.int .i64 0],.agg #[.int .i64 0,.int .i64 0],.int .i64 0],[]⟩ 16 (by kernel_rfl) (by kernel_rfl) (by kernel_rfl) (by kernel_rfl)) ?_
 intro W base args ds gs before hval0 hW hcnd _;have hval: ∀(j:Nat) t v,Tryz.f6.params[j]? =some t->args[j]? =some v->Value.okWide Tryz.prog W .any base t v:=hval0;have hW':=hW;obtain ⟨p,q,hA0,hV,rfl,hfz,hnd⟩:=hW;have hA:DataW.TrodAll enc Tryz.prog W 0 (fun _=>true) true Tryz.f6.params.toList args.toList ds p:=hA0
 rw [Tryz.params6] at hA hval;obtain ⟨v0,vs0,d0,ds0,p0,q0,hargs,rfl,rfl,h0,r0⟩:=trodAll_cons hA;obtain ⟨v1,vs1,d1,ds1,p1,q1,rfl,rfl,rfl,h1,r1⟩:=trodAll_cons r0;obtain ⟨v2,vs2,d2,ds2,p2,q2,rfl,rfl,rfl,h2,r2⟩:=trodAll_cons r1;obtain ⟨v3,vs3,d3,ds3,p3,q3,rfl,rfl,rfl,h3,r3⟩:=trodAll_cons r2;obtain ⟨rfl,rfl,rfl⟩:=trodAll_nil r3;obtain rfl:args= #[v0,v1,v2,v3]:=by cases args;simp_all
 obtain ⟨rfl,rfl⟩:=trodVars_none hV;obtain ⟨_,g0,⟨a0,rfl,w0⟩,e0,k0⟩:=jM.argS aVA Tryz.underlying26 (hval 0 26 v0 rfl rfl) h0;obtain rfl:g0=(pvL (cB.enc a0)).getD []:=by rw [e0];rfl
 obtain ⟨_,g1,⟨a1,rfl,w1⟩,e1,k1⟩:=jM.argS aHe Tryz.underlying23 (hval 1 23 v1 rfl rfl) h1;obtain rfl:g1=(pvL (RT.sv [.i .i64,.i .i64] a1)).getD []:=by rw [e1];rfl
 obtain ⟨_,g2,⟨a2,rfl,w2⟩,e2,k2⟩:=jM.argS aHe Tryz.underlying23 (hval 2 23 v2 rfl rfl) h2;obtain rfl:g2=(pvL (RT.sv [.i .i64,.i .i64] a2)).getD []:=by rw [e2];rfl
 obtain ⟨a3,w3,k3⟩:=jM.argI Tryz.underlying3 (hval 3 3 v3 rfl rfl) h3
 obtain ⟨n,s,z,hrun⟩:=aI.runA aXN aPh (a:=(a0,a1,a2,a3)) (EA a0 a1 a2 a3 ⟨DD w1.1,DD w1.2⟩ ⟨DD w2.1,DD w2.2⟩ (DD w3)) (ps:=[.agg ((pvL (cB.enc a0)).getD []),.agg ((pvL (RT.sv [.i .i64,.i .i64] a1)).getD []),.agg ((pvL (RT.sv [.i .i64,.i .i64] a2)).getD []),.int .i64 a3]) rfl rfl
 refine (aDN (P:=Tryz.prog) (prims:=fun _=>true) (TT.tabOK aCx) (TT.primsOK aCx) oQ hrun (us:=[v0,v1,v2,v3]) (w:=W) (.cons _ _ _ _ k0 (.cons _ _ _ _ k1 (.cons _ _ _ _ k2 (.cons _ _ _ _ k3 (.nil)))))).mono fun e W' ⟨he,hb⟩=>?_
 subst he;exact ⟨_,rfl,aE4 (P:=Tryz.prog) (bt:=4) Qk1 rfl rfl (by kernel_rfl) (by
  rw [Tryz.params6];intro t ht;simp only [List.mem_cons,List.not_mem_nil,or_false] at ht;rcases ht with rfl|rfl|rfl|rfl
  · exact aXX
  · exact aPp
  · exact aPp
  exact aZS) hW' rfl hb⟩
theorem ktournEmpty_holds:Rows.KtournEmptySaid:=
 OpenClaim.holds_of_wide 6 Tryz.f6 rfl rfl rfl rfl rfl rfl rfl ⟨rfl,rfl,rfl,rfl,rfl⟩ rfl rfl rfl rfl rfl (by kernel_rfl) Tryz.func6 aOT
  (of_decide_eq_true (by kernel_rfl)) (by unfold Func.isWrapper;first|(rw [if_pos (by decide+kernel)];kernel_rfl)|(rw [if_neg (by decide+kernel)];exact ⟨rfl,rfl⟩))
  (fun os started H enc _=>aOU os started H enc)
end Go.Proofs.YtlnclppkepgdmaaGreat
