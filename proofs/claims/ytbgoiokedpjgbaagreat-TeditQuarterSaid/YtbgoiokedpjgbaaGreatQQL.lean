/- The law TeditQuarter returns true: its plain function gives true whatever comes in. -/
import Derived.Test.YtbgoiokedpjgbaaGreatRows
import Derived.Test.YtbgoiokedpjgbaaGreatQQS2
import Derived.Test.YtbgoiokedpjgbaaGreatQQM5
import Derived.Test.YtbgoiokedpjgbaaGreatQVm3
open Bool renaming true->ut,false->v6
namespace Go.Proofs.YtbgoiokedpjgbaaGreat
open Go.ChangeShapes Go.WideShapes Go.ChangeAt Go.RowKit Go.Vm
theorem aqZ:mH Tryz.prog 3 (vP [.i .i64]):=mH.int Tryz.underlying3
theorem amA:mH Tryz.prog 30 (KSl [.i .i64]):=mH.slice (r:=[.i .i64]) Tryz.underlying30 aqZ (by kernel_rfl) (by decide)
theorem aq0:Tryz.prog.readableRec 30=ut/\30<Tryz.prog.types.size:=⟨by kernel_rfl,of_decide_eq_true (by kernel_rfl)⟩
theorem au0:ownKnob Tryz.prog.godebug=none:=by kernel_rfl
theorem nu {a b:Bool} (h:a=ut) (k:b=ut):(a&&b)=ut:=by rw [h,k];rfl
theorem Qk0:Rows.teditQuarterRow.wf (OpenSpec.ofChange Rows.teditQuarterSpec)=ut:=by decide+kernel
theorem Qk1:laidOutB Tryz.prog=ut:=by decide+kernel
theorem Qk2:mapsRowed Tryz.prog=ut:=by decide+kernel
theorem Qk3:Tryz.f6.params.all (Tryz.prog.readableRec ·)=ut:=by decide+kernel
theorem Qk4:namedTie Tryz.prog Rows.teditQuarterRow.named Rows.teditQuarterSpec.vars=ut:=by decide+kernel
theorem Qk5:(Rows.teditQuarterRow.stops==[])=ut:=by decide+kernel
theorem Qk6:(Tryz.prog.stops==[])=ut:=by decide+kernel
theorem Qk7:(Rows.teditQuarterRow.knobs==[])=ut:=by decide+kernel
theorem Qk8:(Tryz.prog.stopKnobs==[])=ut:=by decide+kernel
theorem Qk9:(Rows.teditQuarterRow.inPlace==Tryz.prog.inPlace 6)=ut:=by decide+kernel
theorem au1:(Rows.teditQuarterRow.unfollowed==Tryz.prog.unfollowed 6)=ut:=by decide+kernel
theorem au2:(Rows.teditQuarterRow.recurses==Tryz.prog.recurses 6)=ut:=by decide+kernel
theorem au3:(Rows.teditQuarterRow.named==Tryz.prog.varsNamed 6)=ut:=by decide+kernel
theorem au4:(Rows.teditQuarterRow.maps==(Tryz.f6.params.toList++Rows.teditQuarterSpec.plain.varTypes Tryz.prog).any (Tryz.prog.mapsRec ·))=ut:=by decide+kernel
theorem au5:(Rows.teditQuarterRow.ifaces==(Tryz.f6.params.toList++Rows.teditQuarterSpec.plain.varTypes Tryz.prog).any (Tryz.prog.ifacesRec ·))=ut:=by decide+kernel
theorem au6:(Rows.teditQuarterRow.mapsOut==Tryz.prog.mapsAmong Tryz.f6.resultTypes.toList)=ut:=by decide+kernel
theorem au7:(Rows.teditQuarterRow.loops==(Tryz.f6.params.toList++Rows.teditQuarterSpec.plain.varTypes Tryz.prog).any (Tryz.prog.loopsFrom ·))=ut:=by decide+kernel
theorem au8:(Rows.teditQuarterRow.wideKeys==(Tryz.f6.params.toList++Rows.teditQuarterSpec.plain.varTypes Tryz.prog++Tryz.f6.resultTypes.toList).any (Tryz.prog.wideKeysFrom ·))=ut:=by decide+kernel
theorem au9:Rows.teditQuarterSpec.vars.all (Tryz.prog.varReadable ·)=ut:=by decide+kernel
theorem au':Tryz.f6.resultTypes.all (fun t=>Tryz.prog.readableRec t&&decide (t<Tryz.prog.types.size))=ut:=by decide+kernel
theorem ava:(Rows.teditQuarterRow.ifacesOut==Tryz.f6.resultTypes.toList.any (Tryz.prog.ifacesRec ·))=ut:=by decide+kernel
theorem avb:(Rows.teditQuarterRow.loopsOut==Tryz.f6.resultTypes.toList.any (Tryz.prog.loopsFrom ·))=ut:=by decide+kernel
theorem avc:(Rows.teditQuarterRow.plainKeys==Tryz.prog.plainKeys)=ut:=by decide+kernel
theorem avd:Rows.teditQuarterRow.shortTexts.isNone=ut:=by decide+kernel
theorem ave:Tryz.prog.stopsHeard=ut:=by decide+kernel
theorem avf:Tryz.prog.mayEnter=ut:=by decide+kernel
theorem avg:(Rows.teditQuarterRow.lifted==Tryz.prog.liftsFinal)=ut:=by decide+kernel
theorem avh:(Tryz.prog.make==some Rows.teditQuarterRow.make)=ut:=by decide+kernel
theorem avi:(Rows.teditQuarterRow.kinds==(if Rows.teditQuarterRow.domain.isEmpty then [] else Tryz.f6.params.toList.map fun t=>match Tryz.prog.underlying t with|some (.int k)=>some k|_=>none))=ut:=by decide+kernel
theorem avj:(Rows.teditQuarterRow.pinned==Rows.teditQuarterRow.pinnedBy)=ut:=by decide+kernel
theorem avk:(Rows.teditQuarterRow.veiled==(Tryz.f6.params.toList++Rows.teditQuarterSpec.plain.varTypes Tryz.prog++Tryz.f6.resultTypes.toList).any (Tryz.prog.veiledRec ·))=ut:=by decide+kernel
theorem avl:Rows.teditQuarterRow.veiledFits Tryz.prog Tryz.f6.params.toList (Tryz.f6.params.toList++Rows.teditQuarterSpec.plain.varTypes Tryz.prog++Tryz.f6.resultTypes.toList)=ut:=by decide+kernel
set_option maxRecDepth 100000 in
theorem aeZ:joinedFacts Tryz.prog 6 Tryz.f6 Rows.teditQuarterSpec Rows.teditQuarterRow=ut:=(nu (nu (nu (nu (nu (nu (nu (nu (nu (nu (nu (nu (nu (nu (nu (nu (nu (nu (nu (nu (nu (nu (nu (nu (nu (nu (nu (nu (nu (nu (nu Qk0 Qk1) Qk2) Qk3) Qk4) Qk5) Qk6) Qk7) Qk8) Qk9) au1) au2) au3) au4) au5) au6) au7) au8) au9) au') ava) avb) avc) avd) ave) avf) avg) avh) avi) avj) avk) avl)
set_option maxRecDepth 100000 in
theorem ae0 (os:Os) (started:os.Started) (H:Type) (enc:TypeId×Value->H):
 ReturnsInHanded {} Tryz.checked os 6 .any (Rows.teditQuarterSpec.pre6 enc Tryz.prog Tryz.f6 Rows.teditQuarterRow.domain v6) (Rows.teditQuarterSpec.post enc Tryz.prog Tryz.f6 v6 ut v6 v6):=by
 refine returnsInHanded_of_change (C:=Tryz.checked) au0 started (by kernel_rfl) Tryz.func6
  (ChangeSpec.witness6 (enc:=enc) (C:=Tryz.checked) v6 ⟨#[],#[.slice none 0 0],[]⟩ 16 (by kernel_rfl) (by kernel_rfl) (by kernel_rfl) (by kernel_rfl)) ?_
 intro W o7 args ds gs before aq1 hW XP _;have X0: ∀(j:Nat) t v,Tryz.f6.params[j]? =some t->args[j]? =some v->Value.okWide Tryz.prog W .any o7 t v:=aq1;have hW':=hW;obtain ⟨p,q,hA0,hV,rfl,Tl,Hl⟩:=hW;have hA:DataW.TrodAll enc Tryz.prog W 0 (fun _=>ut) ut Tryz.f6.params.toList args.toList ds p:=hA0
 rw [Tryz.params6] at hA X0;obtain ⟨v0,vs0,d0,ds0,p0,q0,lf,rfl,rfl,h0,r0⟩:=trodAll_cons hA;obtain ⟨rfl,rfl,rfl⟩:=trodAll_nil r0;obtain rfl:args= #[v0]:=by cases args;simp_all
 obtain ⟨rfl,rfl⟩:=trodVars_none hV;obtain ⟨a0,w0,k0⟩:=mH.atd amA Tryz.underlying30 (X0 0 30 v0 rfl rfl) h0;obtain ⟨n,s,z,cy⟩:=aF.ate aqE afL (a:=(a0)) (wb a0) (ps:=[.sl 1 v6 (a0.map (RT.pv [.i .i64]))]) rfl rfl
 refine (Sc (P:=Tryz.prog) (prims:=fun _=>ut) (TT.an5 QJ) (TT.XA QJ) lF cy (us:=[v0]) (w:=W) (.cons _ _ _ _ k0 (.nil))).mono fun e W' ⟨he,hb⟩=>?_
 subst he;exact ⟨_,rfl,Um (P:=Tryz.prog) (bt:=4) Qk1 rfl rfl (by kernel_rfl) (by
  rw [Tryz.params6];intro t ht;simp only [List.mem_cons,List.not_mem_nil,or_false] at ht;rcases ht with rfl
  exact aq0) hW' rfl hb⟩
theorem teditQuarter_holds:Rows.TeditQuarterSaid:=
 OpenClaim.holds_of_wide 6 Tryz.f6 rfl rfl rfl rfl rfl rfl rfl ⟨rfl,rfl,rfl,rfl,rfl⟩ rfl rfl rfl rfl rfl (by kernel_rfl) Tryz.func6 aeZ
  (of_decide_eq_true (by kernel_rfl)) (by unfold Func.isWrapper;first|(rw [pp (by decide+kernel)];kernel_rfl)|(rw [rc (by decide+kernel)];exact ⟨rfl,rfl⟩))
  (fun os started H enc _=>ae0 os started H enc)
end Go.Proofs.YtbgoiokedpjgbaaGreat
