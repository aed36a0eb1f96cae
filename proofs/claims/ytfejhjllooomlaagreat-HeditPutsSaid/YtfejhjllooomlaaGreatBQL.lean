/- The law HeditPuts returns true: its plain function gives true whatever comes in. -/
import Derived.Test.YtfejhjllooomlaaGreatRows
import Derived.Test.YtfejhjllooomlaaGreatBQS2
import Derived.Test.YtfejhjllooomlaaGreatBQM4
import Derived.Test.YtfejhjllooomlaaGreatBVm3
namespace Go.Proofs.YtfejhjllooomlaaGreat
open Go.ChangeShapes Go.WideShapes Go.ChangeAt Go.RowKit Go.Vm
theorem Y4:cP Tryz.prog 2 (iL [.i .i64]):=cP.int Tryz.underlying2
theorem aCR:cP Tryz.prog 23 (iL [.i .i64,.i .i64]):=(cP.struct (Ks:=[(iL [.i .i64]),(iL [.i .i64])]) Tryz.underlying23 (bC.cons (by kernel_rfl) Y4 (bC.cons (by kernel_rfl) Y4 (bC.nil))) (by kernel_rfl)).mono (fun vs h=>pT (rs:=[[.i .i64],[.i .i64]]) h)
theorem EZ:cP Tryz.prog 3 (iL [.i .i64]):=cP.int Tryz.underlying3
theorem WT:cP Tryz.prog 76 (iL [.i .i64,.i .i64,.i .i64]):=(cP.struct (Ks:=[(iL [.i .i64]),(iL [.i .i64]),(iL [.i .i64])]) Tryz.underlying76 (bC.cons (by kernel_rfl) EZ (bC.cons (by kernel_rfl) Y4 (bC.cons (by kernel_rfl) Y4 (bC.nil)))) (by kernel_rfl)).mono (fun vs h=>pT (rs:=[[.i .i64],[.i .i64],[.i .i64]]) h)
theorem aOY:cP Tryz.prog 24 (UJ [.i .i64,.i .i64,.i .i64]):=cP.slice (r:=[.i .i64,.i .i64,.i .i64]) Tryz.underlying24 WT (by kernel_rfl) (by decide)
structure Field.WF (c:Field):Prop where
 points: ∀a∈c.points,RT.wf [.i .i64,.i .i64,.i .i64] a
def Y5:List SV->Prop:=fun vs=> ∃c:Field,vs=cB.enc c/\c.WF
theorem aOZ:cP Tryz.prog 26 Y5:=(cP.struct (Ks:=[(UJ [.i .i64,.i .i64,.i .i64])]) Tryz.underlying26 (bC.cons (by kernel_rfl) aOY (bC.nil)) (by kernel_rfl)).mono (by
 rintro vs ⟨_,b0,rfl,⟨c0,rfl,w0⟩,rfl⟩;refine ⟨⟨c0⟩,?_,⟨w0⟩⟩;simp only [List.append_nil]
 rfl)
theorem aO0:cP Tryz.prog 71 (iL [.i .i64,.i .i64]):=(cP.struct (Ks:=[(iL [.i .i64]),(iL [.i .i64])]) Tryz.underlying71 (bC.cons (by kernel_rfl) EZ (bC.cons (by kernel_rfl) EZ (bC.nil))) (by kernel_rfl)).mono (fun vs h=>pT (rs:=[[.i .i64],[.i .i64]]) h)
theorem aJh:cP Tryz.prog 156 (iL [.i .i64,.i .i64,.i .i64]):=(cP.struct (Ks:=[(iL [.i .i64]),(iL [.i .i64,.i .i64])]) Tryz.underlying156 (bC.cons (by kernel_rfl) EZ (bC.cons (by kernel_rfl) aO0 (bC.nil))) (by kernel_rfl)).mono (fun vs h=>pT (rs:=[[.i .i64],[.i .i64,.i .i64]]) h)
theorem aO1:cP Tryz.prog 27 (UJ [.i .i64,.i .i64,.i .i64]):=cP.slice (r:=[.i .i64,.i .i64,.i .i64]) Tryz.underlying27 aJh (by kernel_rfl) (by decide)
structure aU.WF (c:aU):Prop where
 next_:RT.wf [.i .i64] c.next_
 list: ∀a∈c.list,RT.wf [.i .i64,.i .i64,.i .i64] a
def Y6:List SV->Prop:=fun vs=> ∃c:aU,vs=gT.enc c/\c.WF
theorem aO2:cP Tryz.prog 29 Y6:=(cP.struct (Ks:=[(iL [.i .i64]),(UJ [.i .i64,.i .i64,.i .i64])]) Tryz.underlying29 (bC.cons (by kernel_rfl) EZ (bC.cons (by kernel_rfl) aO1 (bC.nil))) (by kernel_rfl)).mono (by
 rintro vs ⟨_,b0,rfl,⟨c0,rfl,w0⟩,_,b1,rfl,⟨c1,rfl,w1⟩,rfl⟩;refine ⟨⟨c0,c1⟩,?_,⟨w0,w1⟩⟩;simp only [List.append_nil]
 rfl)
theorem Q1:cP Tryz.prog 30 (UJ [.i .i64]):=cP.slice (r:=[.i .i64]) Tryz.underlying30 EZ (by kernel_rfl) (by decide)
theorem aRs:cP Tryz.prog 4 (iL [.b]):=cP.bool Tryz.underlying4
theorem aO3:cP Tryz.prog 31 (UJ [.b]):=cP.slice (r:=[.b]) Tryz.underlying31 aRs (by kernel_rfl) (by decide)
structure aR.WF (c:aR):Prop where
 uses: ∀a∈c.uses,RT.wf [.i .i64] a
 used: ∀a∈c.used,RT.wf [.b] a
 free: ∀a∈c.free,RT.wf [.i .i64] a
def Y7:List SV->Prop:=fun vs=> ∃c:aR,vs=gL.enc c/\c.WF
theorem aO4:cP Tryz.prog 33 Y7:=(cP.struct (Ks:=[(UJ [.i .i64]),(UJ [.b]),(UJ [.i .i64])]) Tryz.underlying33 (bC.cons (by kernel_rfl) Q1 (bC.cons (by kernel_rfl) aO3 (bC.cons (by kernel_rfl) Q1 (bC.nil)))) (by kernel_rfl)).mono (by
 rintro vs ⟨_,b0,rfl,⟨c0,rfl,w0⟩,_,b1,rfl,⟨c1,rfl,w1⟩,_,b2,rfl,⟨c2,rfl,w2⟩,rfl⟩;refine ⟨⟨c0,c1,c2⟩,?_,⟨w0,w1,w2⟩⟩;simp only [List.append_nil]
 rfl)
theorem Y8:cP Tryz.prog 126 (iL [.i .i64,.i .i64]):=(cP.struct (Ks:=[(iL [.i .i64]),(iL [.i .i64])]) Tryz.underlying126 (bC.cons (by kernel_rfl) EZ (bC.cons (by kernel_rfl) EZ (bC.nil))) (by kernel_rfl)).mono (fun vs h=>pT (rs:=[[.i .i64],[.i .i64]]) h)
theorem aJi:cP Tryz.prog 128 (iL [.i .i64,.i .i64,.i .i64,.i .i64,.i .i64]):=(cP.struct (Ks:=[(iL [.i .i64,.i .i64]),(iL [.i .i64]),(iL [.i .i64,.i .i64])]) Tryz.underlying128 (bC.cons (by kernel_rfl) aCR (bC.cons (by kernel_rfl) EZ (bC.cons (by kernel_rfl) Y8 (bC.nil)))) (by kernel_rfl)).mono (fun vs h=>pT (rs:=[[.i .i64,.i .i64],[.i .i64],[.i .i64,.i .i64]]) h)
theorem aO5:cP Tryz.prog 34 (UJ [.i .i64,.i .i64,.i .i64,.i .i64,.i .i64]):=cP.slice (r:=[.i .i64,.i .i64,.i .i64,.i .i64,.i .i64]) Tryz.underlying34 aJi (by kernel_rfl) (by decide)
structure aG.WF (c:aG):Prop where
 slots:aR.WF c.slots
 heap: ∀a∈c.heap,RT.wf [.i .i64,.i .i64,.i .i64,.i .i64,.i .i64] a
 where_: ∀a∈c.where_,RT.wf [.i .i64] a
def UI:List SV->Prop:=fun vs=> ∃c:aG,vs=dD.enc c/\c.WF
theorem aO6:cP Tryz.prog 36 UI:=(cP.struct (Ks:=[Y7,(UJ [.i .i64,.i .i64,.i .i64,.i .i64,.i .i64]),(UJ [.i .i64])]) Tryz.underlying36 (bC.cons (by kernel_rfl) aO4 (bC.cons (by kernel_rfl) aO5 (bC.cons (by kernel_rfl) Q1 (bC.nil)))) (by kernel_rfl)).mono (by
 rintro vs ⟨_,b0,rfl,⟨c0,rfl,w0⟩,_,b1,rfl,⟨c1,rfl,w1⟩,_,b2,rfl,⟨c2,rfl,w2⟩,rfl⟩;refine ⟨⟨c0,c1,c2⟩,?_,⟨w0,w1,w2⟩⟩;simp only [List.append_nil]
 rfl)
theorem aJj:cP Tryz.prog 160 (iL [.i .i64,.i .i64,.i .i64]):=(cP.struct (Ks:=[(iL [.i .i64]),(iL [.i .i64,.i .i64])]) Tryz.underlying160 (bC.cons (by kernel_rfl) EZ (bC.cons (by kernel_rfl) Y8 (bC.nil))) (by kernel_rfl)).mono (fun vs h=>pT (rs:=[[.i .i64],[.i .i64,.i .i64]]) h)
theorem aO7:cP Tryz.prog 37 (UJ [.i .i64,.i .i64,.i .i64]):=cP.slice (r:=[.i .i64,.i .i64,.i .i64]) Tryz.underlying37 aJj (by kernel_rfl) (by decide)
structure aP.WF (c:aP):Prop where
 now:RT.wf [.i .i64,.i .i64] c.now
 field:Field.WF c.field
 certs:aU.WF c.certs
 agenda:aG.WF c.agenda
 due: ∀a∈c.due,RT.wf [.i .i64,.i .i64,.i .i64] a
def Y9:List SV->Prop:=fun vs=> ∃c:aP,vs=bU.enc c/\c.WF
theorem aO8:cP Tryz.prog 39 Y9:=(cP.struct (Ks:=[(iL [.i .i64,.i .i64]),Y5,Y6,UI,(UJ [.i .i64,.i .i64,.i .i64])]) Tryz.underlying39 (bC.cons (by kernel_rfl) aCR (bC.cons (by kernel_rfl) aOZ (bC.cons (by kernel_rfl) aO2 (bC.cons (by kernel_rfl) aO6 (bC.cons (by kernel_rfl) aO7 (bC.nil)))))) (by kernel_rfl)).mono (by
 rintro vs ⟨_,b0,rfl,⟨c0,rfl,w0⟩,_,b1,rfl,⟨c1,rfl,w1⟩,_,b2,rfl,⟨c2,rfl,w2⟩,_,b3,rfl,⟨c3,rfl,w3⟩,_,b4,rfl,⟨c4,rfl,w4⟩,rfl⟩;refine ⟨⟨c0,c1,c2,c3,c4⟩,?_,⟨w0,w1,w2,w3,w4⟩⟩;simp only [List.append_nil]
 rfl)
structure cC.WF (c:cC):Prop where
 clock:aP.WF c.clock
 heap: ∀a∈c.heap,RT.wf [.i .i64] a
def aJk:List SV->Prop:=fun vs=> ∃c:cC,vs=gC.enc c/\c.WF
theorem aO9:cP Tryz.prog 41 aJk:=(cP.struct (Ks:=[Y9,(UJ [.i .i64])]) Tryz.underlying41 (bC.cons (by kernel_rfl) aO8 (bC.cons (by kernel_rfl) Q1 (bC.nil))) (by kernel_rfl)).mono (by
 rintro vs ⟨_,b0,rfl,⟨c0,rfl,w0⟩,_,b1,rfl,⟨c1,rfl,w1⟩,rfl⟩;refine ⟨⟨c0,c1⟩,?_,⟨w0,w1⟩⟩;simp only [List.append_nil]
 rfl)
theorem aRt:Tryz.prog.readableRec 41=true/\41<Tryz.prog.types.size:=⟨by kernel_rfl,of_decide_eq_true (by kernel_rfl)⟩
theorem aJR:Tryz.prog.readableRec 76=true/\76<Tryz.prog.types.size:=⟨by kernel_rfl,of_decide_eq_true (by kernel_rfl)⟩
theorem aS2:ownKnob Tryz.prog.godebug=none:=by kernel_rfl
theorem pL {a b:Bool} (h:a=true) (k:b=true):(a&&b)=true:=by rw [h,k];rfl
theorem Qk0:Rows.heditPutsRow.wf (OpenSpec.ofChange Rows.heditPutsSpec)=true:=by decide+kernel
theorem Qk1:laidOutB Tryz.prog=true:=by decide+kernel
theorem Qk2:mapsRowed Tryz.prog=true:=by decide+kernel
theorem Qk3:Tryz.f6.params.all (Tryz.prog.readableRec ·)=true:=by decide+kernel
theorem Qk4:namedTie Tryz.prog Rows.heditPutsRow.named Rows.heditPutsSpec.vars=true:=by decide+kernel
theorem Qk5:(Rows.heditPutsRow.stops==[])=true:=by decide+kernel
theorem Qk6:(Tryz.prog.stops==[])=true:=by decide+kernel
theorem Qk7:(Rows.heditPutsRow.knobs==[])=true:=by decide+kernel
theorem Qk8:(Tryz.prog.stopKnobs==[])=true:=by decide+kernel
theorem Qk9:(Rows.heditPutsRow.inPlace==Tryz.prog.inPlace 6)=true:=by decide+kernel
theorem aS3:(Rows.heditPutsRow.unfollowed==Tryz.prog.unfollowed 6)=true:=by decide+kernel
theorem aS4:(Rows.heditPutsRow.recurses==Tryz.prog.recurses 6)=true:=by decide+kernel
theorem aS5:(Rows.heditPutsRow.named==Tryz.prog.varsNamed 6)=true:=by decide+kernel
theorem aS6:(Rows.heditPutsRow.maps==(Tryz.f6.params.toList++Rows.heditPutsSpec.plain.varTypes Tryz.prog).any (Tryz.prog.mapsRec ·))=true:=by decide+kernel
theorem aS7:(Rows.heditPutsRow.ifaces==(Tryz.f6.params.toList++Rows.heditPutsSpec.plain.varTypes Tryz.prog).any (Tryz.prog.ifacesRec ·))=true:=by decide+kernel
theorem aS8:(Rows.heditPutsRow.mapsOut==Tryz.prog.mapsAmong Tryz.f6.resultTypes.toList)=true:=by decide+kernel
theorem aS9:(Rows.heditPutsRow.loops==(Tryz.f6.params.toList++Rows.heditPutsSpec.plain.varTypes Tryz.prog).any (Tryz.prog.loopsFrom ·))=true:=by decide+kernel
theorem aTa:(Rows.heditPutsRow.wideKeys==(Tryz.f6.params.toList++Rows.heditPutsSpec.plain.varTypes Tryz.prog++Tryz.f6.resultTypes.toList).any (Tryz.prog.wideKeysFrom ·))=true:=by decide+kernel
theorem aTb:Rows.heditPutsSpec.vars.all (Tryz.prog.varReadable ·)=true:=by decide+kernel
theorem aTc:Tryz.f6.resultTypes.all (fun t=>Tryz.prog.readableRec t&&decide (t<Tryz.prog.types.size))=true:=by decide+kernel
theorem aTd:(Rows.heditPutsRow.ifacesOut==Tryz.f6.resultTypes.toList.any (Tryz.prog.ifacesRec ·))=true:=by decide+kernel
theorem aTe:(Rows.heditPutsRow.loopsOut==Tryz.f6.resultTypes.toList.any (Tryz.prog.loopsFrom ·))=true:=by decide+kernel
theorem aTf:(Rows.heditPutsRow.plainKeys==Tryz.prog.plainKeys)=true:=by decide+kernel
theorem aTg:Rows.heditPutsRow.shortTexts.isNone=true:=by decide+kernel
theorem aTh:Tryz.prog.stopsHeard=true:=by decide+kernel
theorem aTi:Tryz.prog.mayEnter=true:=by decide+kernel
theorem aTj:(Rows.heditPutsRow.lifted==Tryz.prog.liftsFinal)=true:=by decide+kernel
theorem aTk:(Tryz.prog.make==some Rows.heditPutsRow.make)=true:=by decide+kernel
theorem aTl:(Rows.heditPutsRow.kinds==(if Rows.heditPutsRow.domain.isEmpty then [] else Tryz.f6.params.toList.map fun t=>match Tryz.prog.underlying t with|some (.int k)=>some k|_=>none))=true:=by decide+kernel
theorem aTm:(Rows.heditPutsRow.pinned==Rows.heditPutsRow.pinnedBy)=true:=by decide+kernel
theorem aTn:(Rows.heditPutsRow.veiled==(Tryz.f6.params.toList++Rows.heditPutsSpec.plain.varTypes Tryz.prog++Tryz.f6.resultTypes.toList).any (Tryz.prog.veiledRec ·))=true:=by decide+kernel
theorem aTo:Rows.heditPutsRow.veiledFits Tryz.prog Tryz.f6.params.toList (Tryz.f6.params.toList++Rows.heditPutsSpec.plain.varTypes Tryz.prog++Tryz.f6.resultTypes.toList)=true:=by decide+kernel
set_option maxRecDepth 100000 in
theorem aJl:joinedFacts Tryz.prog 6 Tryz.f6 Rows.heditPutsSpec Rows.heditPutsRow=true:=(pL (pL (pL (pL (pL (pL (pL (pL (pL (pL (pL (pL (pL (pL (pL (pL (pL (pL (pL (pL (pL (pL (pL (pL (pL (pL (pL (pL (pL (pL (pL Qk0 Qk1) Qk2) Qk3) Qk4) Qk5) Qk6) Qk7) Qk8) Qk9) aS3) aS4) aS5) aS6) aS7) aS8) aS9) aTa) aTb) aTc) aTd) aTe) aTf) aTg) aTh) aTi) aTj) aTk) aTl) aTm) aTn) aTo)
set_option maxRecDepth 100000 in
theorem aJm (os:Os) (started:os.Started) (H:Type) (enc:TypeId×Value->H):
 ReturnsInHanded {} Tryz.checked os 6 .any (Rows.heditPutsSpec.pre6 enc Tryz.prog Tryz.f6 Rows.heditPutsRow.domain false) (Rows.heditPutsSpec.post enc Tryz.prog Tryz.f6 false true false false):=by
 refine returnsInHanded_of_change (C:=Tryz.checked) aS2 started (by kernel_rfl) Tryz.func6
  (ChangeSpec.witness6 (enc:=enc) (C:=Tryz.checked) false ⟨#[],#[.agg #[.int .i64 0,.int .i64 0,.slice none 0 0,.int .i64 0,.slice none 0 0,.slice none 0 0,.slice none 0 0,.slice none 0 0,.slice none 0 0,.slice none 0 0,.slice none 0 0,.slice none 0 0],.agg #[.int .i64 0,.int .i64 0,.int .i64 0],.agg #[.int .i64 0,.int .i64 0,.int .i64 0]],[]⟩ 16 (by kernel_rfl) (by kernel_rfl) (by kernel_rfl) (by kernel_rfl)) ?_
 intro W base args ds gs before hval0 hW hcnd _;have hval: ∀(j:Nat) t v,Tryz.f6.params[j]? =some t->args[j]? =some v->Value.okWide Tryz.prog W .any base t v:=hval0;have hW':=hW;obtain ⟨p,q,hA0,hV,rfl,hfz,hnd⟩:=hW;have hA:DataW.TrodAll enc Tryz.prog W 0 (fun _=>true) true Tryz.f6.params.toList args.toList ds p:=hA0
 rw [Tryz.params6] at hA hval;obtain ⟨v0,vs0,d0,ds0,p0,q0,hargs,rfl,rfl,h0,r0⟩:=trodAll_cons hA;obtain ⟨v1,vs1,d1,ds1,p1,q1,rfl,rfl,rfl,h1,r1⟩:=trodAll_cons r0;obtain ⟨v2,vs2,d2,ds2,p2,q2,rfl,rfl,rfl,h2,r2⟩:=trodAll_cons r1;obtain ⟨rfl,rfl,rfl⟩:=trodAll_nil r2;obtain rfl:args= #[v0,v1,v2]:=by cases args;simp_all
 obtain ⟨rfl,rfl⟩:=trodVars_none hV;obtain ⟨_,g0,⟨a0,rfl,w0⟩,e0,k0⟩:=cP.argS aO9 Tryz.underlying41 (hval 0 41 v0 rfl rfl) h0;obtain rfl:g0=(pvL (gC.enc a0)).getD []:=by rw [e0];rfl
 obtain ⟨_,g1,⟨a1,rfl,w1⟩,e1,k1⟩:=cP.argS WT Tryz.underlying76 (hval 1 76 v1 rfl rfl) h1;obtain rfl:g1=(pvL (RT.sv [.i .i64,.i .i64,.i .i64] a1)).getD []:=by rw [e1];rfl
 obtain ⟨_,g2,⟨a2,rfl,w2⟩,e2,k2⟩:=cP.argS WT Tryz.underlying76 (hval 2 76 v2 rfl rfl) h2;obtain rfl:g2=(pvL (RT.sv [.i .i64,.i .i64,.i .i64] a2)).getD []:=by rw [e2];rfl
 obtain ⟨n,s,z,hrun⟩:=aM.runA aRf aJK (a:=(a0,a1,a2)) (DF a0 a1 a2 (aAs.of w0.clock.now w0.clock.agenda.heap)) (ps:=[.agg ((pvL (gC.enc a0)).getD []),.agg ((pvL (RT.sv [.i .i64,.i .i64,.i .i64] a1)).getD []),.agg ((pvL (RT.sv [.i .i64,.i .i64,.i .i64] a2)).getD [])]) rfl rfl
 refine (ZW (P:=Tryz.prog) (prims:=fun _=>true) (TT.tabOK XQ) (TT.primsOK XQ) nI hrun (us:=[v0,v1,v2]) (w:=W) (.cons _ _ _ _ k0 (.cons _ _ _ _ k1 (.cons _ _ _ _ k2 (.nil))))).mono fun e W' ⟨he,hb⟩=>?_
 subst he;exact ⟨_,rfl,aAV (P:=Tryz.prog) (bt:=4) Qk1 rfl rfl (by kernel_rfl) (by
  rw [Tryz.params6];intro t ht;simp only [List.mem_cons,List.not_mem_nil,or_false] at ht;rcases ht with rfl|rfl|rfl
  · exact aRt
  · exact aJR
  · exact aJR) hW' rfl hb⟩
theorem heditPuts_holds:Rows.HeditPutsSaid:=
 OpenClaim.holds_of_wide 6 Tryz.f6 rfl rfl rfl rfl rfl rfl rfl ⟨rfl,rfl,rfl,rfl,rfl⟩ rfl rfl rfl rfl rfl (by kernel_rfl) Tryz.func6 aJl
  (of_decide_eq_true (by kernel_rfl)) (by unfold Func.isWrapper;first|(rw [if_pos (by decide+kernel)];kernel_rfl)|(rw [if_neg (by decide+kernel)];exact ⟨rfl,rfl⟩))
  (fun os started H enc _=>aJm os started H enc)
end Go.Proofs.YtfejhjllooomlaaGreat
