/- The law StretchTourn returns true: its plain function gives true whatever comes in. -/
import Derived.Test.YtclphlgnjkajbaaGreatRows
import Derived.Test.YtclphlgnjkajbaaGreatSQS1
import Derived.Test.YtclphlgnjkajbaaGreatSQM4
import Derived.Test.YtclphlgnjkajbaaGreatSVm3
open Bool renaming true->v6,false->ww
namespace Go.Proofs.YtclphlgnjkajbaaGreat
open Go.ChangeShapes Go.WideShapes Go.ChangeAt Go.RowKit Go.Vm
theorem ahG:lQ Tryz.prog 4 (ur [.b]):=lQ.bool Tryz.underlying4
theorem aeo:lQ Tryz.prog 22 (KSl [.b]):=lQ.slice (r:=[.b]) Tryz.underlying22 ahG (by kernel_rfl) (by decide)
theorem ahH:Tryz.prog.readableRec 22=v6/\22<Tryz.prog.types.size:=⟨by kernel_rfl,of_decide_eq_true (by kernel_rfl)⟩
theorem alB:ownKnob Tryz.prog.godebug=none:=by kernel_rfl
theorem mz {a b:Bool} (h:a=v6) (k:b=v6):(a&&b)=v6:=by rw [h,k];rfl
theorem Qk0:Rows.stretchTournRow.wf (OpenSpec.ofChange Rows.stretchTournSpec)=v6:=by decide+kernel
theorem Qk1:laidOutB Tryz.prog=v6:=by decide+kernel
theorem Qk2:mapsRowed Tryz.prog=v6:=by decide+kernel
theorem Qk3:Tryz.f3.params.all (Tryz.prog.readableRec ·)=v6:=by decide+kernel
theorem Qk4:namedTie Tryz.prog Rows.stretchTournRow.named Rows.stretchTournSpec.vars=v6:=by decide+kernel
theorem Qk5:(Rows.stretchTournRow.stops==[])=v6:=by decide+kernel
theorem Qk6:(Tryz.prog.stops==[])=v6:=by decide+kernel
theorem Qk7:(Rows.stretchTournRow.knobs==[])=v6:=by decide+kernel
theorem Qk8:(Tryz.prog.stopKnobs==[])=v6:=by decide+kernel
theorem Qk9:(Rows.stretchTournRow.inPlace==Tryz.prog.inPlace 3)=v6:=by decide+kernel
theorem alC:(Rows.stretchTournRow.unfollowed==Tryz.prog.unfollowed 3)=v6:=by decide+kernel
theorem alD:(Rows.stretchTournRow.recurses==Tryz.prog.recurses 3)=v6:=by decide+kernel
theorem alE:(Rows.stretchTournRow.named==Tryz.prog.varsNamed 3)=v6:=by decide+kernel
theorem alF:(Rows.stretchTournRow.maps==(Tryz.f3.params.toList++Rows.stretchTournSpec.plain.varTypes Tryz.prog).any (Tryz.prog.mapsRec ·))=v6:=by decide+kernel
theorem alG:(Rows.stretchTournRow.ifaces==(Tryz.f3.params.toList++Rows.stretchTournSpec.plain.varTypes Tryz.prog).any (Tryz.prog.ifacesRec ·))=v6:=by decide+kernel
theorem alH:(Rows.stretchTournRow.mapsOut==Tryz.prog.mapsAmong Tryz.f3.resultTypes.toList)=v6:=by decide+kernel
theorem alI:(Rows.stretchTournRow.loops==(Tryz.f3.params.toList++Rows.stretchTournSpec.plain.varTypes Tryz.prog).any (Tryz.prog.loopsFrom ·))=v6:=by decide+kernel
theorem alJ:(Rows.stretchTournRow.wideKeys==(Tryz.f3.params.toList++Rows.stretchTournSpec.plain.varTypes Tryz.prog++Tryz.f3.resultTypes.toList).any (Tryz.prog.wideKeysFrom ·))=v6:=by decide+kernel
theorem alK:Rows.stretchTournSpec.vars.all (Tryz.prog.varReadable ·)=v6:=by decide+kernel
theorem alL:Tryz.f3.resultTypes.all (fun t=>Tryz.prog.readableRec t&&decide (t<Tryz.prog.types.size))=v6:=by decide+kernel
theorem alM:(Rows.stretchTournRow.ifacesOut==Tryz.f3.resultTypes.toList.any (Tryz.prog.ifacesRec ·))=v6:=by decide+kernel
theorem alN:(Rows.stretchTournRow.loopsOut==Tryz.f3.resultTypes.toList.any (Tryz.prog.loopsFrom ·))=v6:=by decide+kernel
theorem alO:(Rows.stretchTournRow.plainKeys==Tryz.prog.plainKeys)=v6:=by decide+kernel
theorem alP:Rows.stretchTournRow.shortTexts.isNone=v6:=by decide+kernel
theorem alQ:Tryz.prog.stopsHeard=v6:=by decide+kernel
theorem alR:Tryz.prog.mayEnter=v6:=by decide+kernel
theorem alS:(Rows.stretchTournRow.lifted==Tryz.prog.liftsFinal)=v6:=by decide+kernel
theorem alT:(Tryz.prog.make==some Rows.stretchTournRow.make)=v6:=by decide+kernel
theorem alU:(Rows.stretchTournRow.kinds==(if Rows.stretchTournRow.domain.isEmpty then [] else Tryz.f3.params.toList.map fun t=>match Tryz.prog.underlying t with|some (.int k)=>some k|_=>none))=v6:=by decide+kernel
theorem alV:(Rows.stretchTournRow.pinned==Rows.stretchTournRow.pinnedBy)=v6:=by decide+kernel
theorem alW:(Rows.stretchTournRow.veiled==(Tryz.f3.params.toList++Rows.stretchTournSpec.plain.varTypes Tryz.prog++Tryz.f3.resultTypes.toList).any (Tryz.prog.veiledRec ·))=v6:=by decide+kernel
theorem alX:Rows.stretchTournRow.veiledFits Tryz.prog Tryz.f3.params.toList (Tryz.f3.params.toList++Rows.stretchTournSpec.plain.varTypes Tryz.prog++Tryz.f3.resultTypes.toList)=v6:=by decide+kernel
set_option maxRecDepth 100000 in
theorem YZ:joinedFacts Tryz.prog 3 Tryz.f3 Rows.stretchTournSpec Rows.stretchTournRow=v6:=(mz (mz (mz (mz (mz (mz (mz (mz (mz (mz (mz (mz (mz (mz (mz (mz (mz (mz (mz (mz (mz (mz (mz (mz (mz (mz (mz (mz (mz (mz (mz Qk0 Qk1) Qk2) Qk3) Qk4) Qk5) Qk6) Qk7) Qk8) Qk9) alC) alD) alE) alF) alG) alH) alI) alJ) alK) alL) alM) alN) alO) alP) alQ) alR) alS) alT) alU) alV) alW) alX)
set_option maxRecDepth 100000 in
theorem Y0 (os:Os) (started:os.Started) (H:Type) (enc:TypeId×Value->H):
 ReturnsInHanded {} Tryz.checked os 3 .any (Rows.stretchTournSpec.pre6 enc Tryz.prog Tryz.f3 Rows.stretchTournRow.domain ww) (Rows.stretchTournSpec.post enc Tryz.prog Tryz.f3 ww v6 ww ww):=by
 refine returnsInHanded_of_change (C:=Tryz.checked) alB started (by kernel_rfl) Tryz.func3
  (ChangeSpec.witness6 (enc:=enc) (C:=Tryz.checked) ww ⟨#[],#[.slice none 0 0],[]⟩ 16 (by kernel_rfl) (by kernel_rfl) (by kernel_rfl) (by kernel_rfl)) ?_
 intro W nZ args ds gs before ahI hW UQ _;have U1: ∀(j:Nat) t v,Tryz.f3.params[j]? =some t->args[j]? =some v->Value.okWide Tryz.prog W .any nZ t v:=ahI;have hW':=hW;obtain ⟨p,q,hA0,hV,rfl,Qm,FY⟩:=hW;have hA:DataW.TrodAll enc Tryz.prog W 0 (fun _=>v6) v6 Tryz.f3.params.toList args.toList ds p:=hA0;rw [Tryz.params3] at hA U1;obtain ⟨v0,vs0,d0,ds0,p0,q0,kA,rfl,rfl,h0,r0⟩:=trodAll_cons hA;obtain ⟨rfl,rfl,rfl⟩:=trodAll_nil r0;obtain rfl:args= #[v0]:=by cases args;simp_all
 obtain ⟨rfl,rfl⟩:=trodVars_none hV;obtain ⟨a0,w0,k0⟩:=lQ.ajP aeo Tryz.underlying22 (U1 0 22 v0 rfl rfl) h0;obtain ⟨n,s,z,bT⟩:=dy.ajQ c3.ok ZO (a:=(a0)) (uI a0) (ps:=[.sl 1 ww (a0.map (RT.pv [.b]))]) rfl rfl;refine (Pj (P:=Tryz.prog) (prims:=fun _=>v6) (TT.afR Of) (TT.UA Of) kT bT (us:=[v0]) (w:=W) (.cons _ _ _ _ k0 (.nil))).mono fun e W' ⟨he,hb⟩=>?_
 subst he;exact ⟨_,rfl,Rn (P:=Tryz.prog) (bt:=4) Qk1 rfl rfl (by kernel_rfl) (by
  rw [Tryz.params3];intro t ht;simp only [List.mem_cons,List.not_mem_nil,or_false] at ht;rcases ht with rfl
  exact ahH) hW' rfl hb⟩
theorem stretchTourn_holds:Rows.StretchTournSaid:=
 OpenClaim.holds_of_wide 3 Tryz.f3 rfl rfl rfl rfl rfl rfl rfl ⟨rfl,rfl,rfl,rfl,rfl⟩ rfl rfl rfl rfl rfl (by kernel_rfl) Tryz.func3 YZ
  (of_decide_eq_true (by kernel_rfl)) (by unfold Func.isWrapper;first|(rw [rc (by decide+kernel)];kernel_rfl)|(rw [ut (by decide+kernel)];exact ⟨rfl,rfl⟩))
  (fun os started H enc _=>Y0 os started H enc)
end Go.Proofs.YtclphlgnjkajbaaGreat
