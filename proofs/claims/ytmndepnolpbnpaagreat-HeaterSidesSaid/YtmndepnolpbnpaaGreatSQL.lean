/- The law HeaterSides returns true: its plain function gives true whatever comes in. -/
import Derived.Test.YtmndepnolpbnpaaGreatRows
import Derived.Test.YtmndepnolpbnpaaGreatSQS1
import Derived.Test.YtmndepnolpbnpaaGreatSQM4
import Derived.Test.YtmndepnolpbnpaaGreatSVm4
open Bool renaming true->pm
namespace Go.Proofs.YtmndepnolpbnpaaGreat
open Go.ChangeShapes Go.WideShapes Go.ChangeAt Go.RowKit Go.Vm
theorem abz:fQ Tryz.prog 3 (jM [.i .i64]):=fQ.int Tryz.underlying3
theorem JM:fQ Tryz.prog 2 (jM [.i .i64]):=fQ.int Tryz.underlying2
theorem Yj:fQ Tryz.prog 64 (jM [.i .i64,.i .i64,.i .i64]):=(fQ.struct (Ks:=[(jM [.i .i64]),(jM [.i .i64]),(jM [.i .i64])]) Tryz.underlying64 (eG.cons (by kernel_rfl) abz (eG.cons (by kernel_rfl) JM (eG.cons (by kernel_rfl) JM (eG.nil)))) (by kernel_rfl)).mono (fun vs h=>yW (rs:=[[.i .i64],[.i .i64],[.i .i64]]) h)
theorem Yk:fQ Tryz.prog 22 (KSl [.i .i64,.i .i64,.i .i64]):=fQ.slice (r:=[.i .i64,.i .i64,.i .i64]) Tryz.underlying22 Yj (by kernel_rfl) (by decide)
structure Field.WF (c:Field):Prop where
 am: ∀a∈c.am,RT.wf [.i .i64,.i .i64,.i .i64] a
def R0:List SV->Prop:=fun vs=> ∃c:Field,vs=cT.enc c/\c.WF
theorem Yl:fQ Tryz.prog 24 R0:=(fQ.struct (Ks:=[(KSl [.i .i64,.i .i64,.i .i64])]) Tryz.underlying24 (eG.cons (by kernel_rfl) Yk (eG.nil)) (by kernel_rfl)).mono (by rintro vs ⟨_,b0,rfl,⟨c0,rfl,w0⟩,rfl⟩;refine ⟨⟨c0⟩,?_,⟨w0⟩⟩;simp only [List.append_nil];rfl)
theorem Ym:fQ Tryz.prog 26 (jM [.i .i64,.i .i64]):=(fQ.struct (Ks:=[(jM [.i .i64]),(jM [.i .i64])]) Tryz.underlying26 (eG.cons (by kernel_rfl) JM (eG.cons (by kernel_rfl) JM (eG.nil))) (by kernel_rfl)).mono (fun vs h=>yW (rs:=[[.i .i64],[.i .i64]]) h)
theorem abA:Tryz.prog.readableRec 24=pm/\24<Tryz.prog.types.size:=⟨by kernel_rfl,of_decide_eq_true (by kernel_rfl)⟩
theorem abB:Tryz.prog.readableRec 26=pm/\26<Tryz.prog.types.size:=⟨by kernel_rfl,of_decide_eq_true (by kernel_rfl)⟩
theorem af1:ownKnob Tryz.prog.godebug=none:=by kernel_rfl
theorem jQ {a b:Bool} (h:a=pm) (k:b=pm):(a&&b)=pm:=by rw [h,k];rfl
theorem Qk0:Rows.heaterSidesRow.wf (OpenSpec.ofChange Rows.heaterSidesSpec)=pm:=by decide+kernel
theorem Qk1:laidOutB Tryz.prog=pm:=by decide+kernel
theorem Qk2:mapsRowed Tryz.prog=pm:=by decide+kernel
theorem Qk3:Tryz.f3.params.all (Tryz.prog.readableRec ·)=pm:=by decide+kernel
theorem Qk4:namedTie Tryz.prog Rows.heaterSidesRow.named Rows.heaterSidesSpec.vars=pm:=by decide+kernel
theorem Qk5:(Rows.heaterSidesRow.stops==[])=pm:=by decide+kernel
theorem Qk6:(Tryz.prog.stops==[])=pm:=by decide+kernel
theorem Qk7:(Rows.heaterSidesRow.knobs==[])=pm:=by decide+kernel
theorem Qk8:(Tryz.prog.stopKnobs==[])=pm:=by decide+kernel
theorem Qk9:(Rows.heaterSidesRow.inPlace==Tryz.prog.inPlace 3)=pm:=by decide+kernel
theorem af2:(Rows.heaterSidesRow.unfollowed==Tryz.prog.unfollowed 3)=pm:=by decide+kernel
theorem af3:(Rows.heaterSidesRow.recurses==Tryz.prog.recurses 3)=pm:=by decide+kernel
theorem af4:(Rows.heaterSidesRow.named==Tryz.prog.varsNamed 3)=pm:=by decide+kernel
theorem af5:(Rows.heaterSidesRow.maps==(Tryz.f3.params.toList++Rows.heaterSidesSpec.plain.varTypes Tryz.prog).any (Tryz.prog.mapsRec ·))=pm:=by decide+kernel
theorem af6:(Rows.heaterSidesRow.ifaces==(Tryz.f3.params.toList++Rows.heaterSidesSpec.plain.varTypes Tryz.prog).any (Tryz.prog.ifacesRec ·))=pm:=by decide+kernel
theorem af7:(Rows.heaterSidesRow.mapsOut==Tryz.prog.mapsAmong Tryz.f3.resultTypes.toList)=pm:=by decide+kernel
theorem af8:(Rows.heaterSidesRow.loops==(Tryz.f3.params.toList++Rows.heaterSidesSpec.plain.varTypes Tryz.prog).any (Tryz.prog.loopsFrom ·))=pm:=by decide+kernel
theorem af9:(Rows.heaterSidesRow.wideKeys==(Tryz.f3.params.toList++Rows.heaterSidesSpec.plain.varTypes Tryz.prog++Tryz.f3.resultTypes.toList).any (Tryz.prog.wideKeysFrom ·))=pm:=by decide+kernel
theorem af':Rows.heaterSidesSpec.vars.all (Tryz.prog.varReadable ·)=pm:=by decide+kernel
theorem aga:Tryz.f3.resultTypes.all (fun t=>Tryz.prog.readableRec t&&decide (t<Tryz.prog.types.size))=pm:=by decide+kernel
theorem agb:(Rows.heaterSidesRow.ifacesOut==Tryz.f3.resultTypes.toList.any (Tryz.prog.ifacesRec ·))=pm:=by decide+kernel
theorem agc:(Rows.heaterSidesRow.loopsOut==Tryz.f3.resultTypes.toList.any (Tryz.prog.loopsFrom ·))=pm:=by decide+kernel
theorem age:(Rows.heaterSidesRow.plainKeys==Tryz.prog.plainKeys)=pm:=by decide+kernel
theorem agf:Rows.heaterSidesRow.shortTexts.isNone=pm:=by decide+kernel
theorem agh:Tryz.prog.stopsHeard=pm:=by decide+kernel
theorem agi:Tryz.prog.mayEnter=pm:=by decide+kernel
theorem agj:(Rows.heaterSidesRow.lifted==Tryz.prog.liftsFinal)=pm:=by decide+kernel
theorem agk:(Tryz.prog.make==some Rows.heaterSidesRow.make)=pm:=by decide+kernel
theorem agl:(Rows.heaterSidesRow.kinds==(if Rows.heaterSidesRow.domain.isEmpty then [] else Tryz.f3.params.toList.map fun t=>match Tryz.prog.underlying t with|some (.int k)=>some k|_=>none))=pm:=by decide+kernel
theorem agm:(Rows.heaterSidesRow.pinned==Rows.heaterSidesRow.pinnedBy)=pm:=by decide+kernel
theorem agn:(Rows.heaterSidesRow.veiled==(Tryz.f3.params.toList++Rows.heaterSidesSpec.plain.varTypes Tryz.prog++Tryz.f3.resultTypes.toList).any (Tryz.prog.veiledRec ·))=pm:=by decide+kernel
theorem ago:Rows.heaterSidesRow.veiledFits Tryz.prog Tryz.f3.params.toList (Tryz.f3.params.toList++Rows.heaterSidesSpec.plain.varTypes Tryz.prog++Tryz.f3.resultTypes.toList)=pm:=by decide+kernel
set_option maxRecDepth 100000 in
theorem R1:joinedFacts Tryz.prog 3 Tryz.f3 Rows.heaterSidesSpec Rows.heaterSidesRow=pm:=(jQ (jQ (jQ (jQ (jQ (jQ (jQ (jQ (jQ (jQ (jQ (jQ (jQ (jQ (jQ (jQ (jQ (jQ (jQ (jQ (jQ (jQ (jQ (jQ (jQ (jQ (jQ (jQ (jQ (jQ (jQ Qk0 Qk1) Qk2) Qk3) Qk4) Qk5) Qk6) Qk7) Qk8) Qk9) af2) af3) af4) af5) af6) af7) af8) af9) af') aga) agb) agc) age) agf) agh) agi) agj) agk) agl) agm) agn) ago)
set_option maxRecDepth 100000 in
theorem R2 (os:Os) (started:os.Started) (H:Type) (enc:TypeId×Value->H):
 ReturnsInHanded {} Tryz.checked os 3 .any (Rows.heaterSidesSpec.pre6 enc Tryz.prog Tryz.f3 Rows.heaterSidesRow.domain false) (Rows.heaterSidesSpec.post enc Tryz.prog Tryz.f3 false pm false false):=by
 refine returnsInHanded_of_change (C:=Tryz.checked) af1 started (by kernel_rfl) Tryz.func3
  (ChangeSpec.witness6 (enc:=enc) (C:=Tryz.checked) false ⟨#[],#[.agg #[.slice none 0 0],.agg #[.int .i64 0,.int .i64 0]],[]⟩ 16 (by kernel_rfl) (by kernel_rfl) (by kernel_rfl) (by kernel_rfl)) ?_
 intro W fM args ds gs before abC hW O' _;have MP: ∀(j:Nat) t v,Tryz.f3.params[j]? =some t->args[j]? =some v->Value.okWide Tryz.prog W .any fM t v:=abC;have hW':=hW;obtain ⟨p,q,hA0,hV,rfl,Lu,yC⟩:=hW;have hA:DataW.TrodAll enc Tryz.prog W 0 (fun _=>pm) pm Tryz.f3.params.toList args.toList ds p:=hA0;rw [Tryz.params3] at hA MP;obtain ⟨v0,vs0,d0,ds0,p0,q0,iD,rfl,rfl,h0,r0⟩:=trodAll_cons hA;obtain ⟨v1,vs1,d1,ds1,p1,q1,rfl,rfl,rfl,h1,r1⟩:=trodAll_cons r0;obtain ⟨rfl,rfl,rfl⟩:=trodAll_nil r1;obtain rfl:args= #[v0,v1]:=by cases args;simp_all
 obtain ⟨rfl,rfl⟩:=trodVars_none hV;obtain ⟨_,g0,⟨a0,rfl,w0⟩,e0,k0⟩:=fQ.aam Yl Tryz.underlying24 (MP 0 24 v0 rfl rfl) h0;obtain rfl:g0=(lx (cT.enc a0)).getD []:=by rw [e0];rfl
 obtain ⟨_,g1,⟨a1,rfl,w1⟩,e1,k1⟩:=fQ.aam Ym Tryz.underlying26 (MP 1 26 v1 rfl rfl) h1;obtain rfl:g1=(lx (RT.sv [.i .i64,.i .i64] a1)).getD []:=by rw [e1];rfl
 obtain ⟨n,s,z,bu⟩:=cM.adO c3.ok SU (a:=(a0,a1)) (rX a0 a1 ⟨wf_i64 w1.1,wf_i64 w1.2⟩) (ps:=[.agg ((lx (cT.enc a0)).getD []),.agg ((lx (RT.sv [.i .i64,.i .i64] a1)).getD [])]) rfl rfl;refine (Kp (P:=Tryz.prog) (prims:=fun _=>pm) (TT.ZS Jr) (TT.OU Jr) iQ bu (us:=[v0,v1]) (w:=W) (.cons _ _ _ _ k0 (.cons _ _ _ _ k1 (.nil)))).mono fun e W' ⟨he,hb⟩=>?_
 subst he;exact ⟨_,rfl,Mm (P:=Tryz.prog) (bt:=4) Qk1 rfl rfl (by kernel_rfl) (by
  rw [Tryz.params3];intro t ht;simp only [List.mem_cons,List.not_mem_nil,or_false] at ht;rcases ht with rfl|rfl
  · exact abA
  exact abB) hW' rfl hb⟩
theorem heaterSides_holds:Rows.HeaterSidesSaid:=
 OpenClaim.holds_of_wide 3 Tryz.f3 rfl rfl rfl rfl rfl rfl rfl ⟨rfl,rfl,rfl,rfl,rfl⟩ rfl rfl rfl rfl rfl (by kernel_rfl) Tryz.func3 R1
  (of_decide_eq_true (by kernel_rfl)) (by unfold Func.isWrapper;first|(rw [ol (by decide+kernel)];kernel_rfl)|(rw [pi (by decide+kernel)];exact ⟨rfl,rfl⟩))
  (fun os started H enc _=>R2 os started H enc)
end Go.Proofs.YtmndepnolpbnpaaGreat
