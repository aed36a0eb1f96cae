/- The law HangerBuilds returns true: its plain function gives true whatever comes in. -/
import Derived.Test.YtbncnimfgdelaaaGreatRows
import Derived.Test.YtbncnimfgdelaaaGreatBQS2
import Derived.Test.YtbncnimfgdelaaaGreatBQM4
import Derived.Test.YtbncnimfgdelaaaGreatBVm3
namespace Go.Proofs.YtbncnimfgdelaaaGreat
open Go.ChangeShapes Go.WideShapes Go.ChangeAt Go.RowKit Go.Vm
theorem FD:cK Tryz.prog 3 (iK [.i .i64]):=cK.int Tryz.underlying3
theorem aAo:cK Tryz.prog 2 (iK [.i .i64]):=cK.int Tryz.underlying2
theorem aP8:cK Tryz.prog 67 (iK [.i .i64,.i .i64,.i .i64]):=(cK.struct (Ks:=[(iK [.i .i64]),(iK [.i .i64]),(iK [.i .i64])]) Tryz.underlying67 (bC.cons (by kernel_rfl) FD (bC.cons (by kernel_rfl) aAo (bC.cons (by kernel_rfl) aAo (bC.nil)))) (by kernel_rfl)).mono (fun vs h=>qB (rs:=[[.i .i64],[.i .i64],[.i .i64]]) h)
theorem aP9:cK Tryz.prog 22 (VZ [.i .i64,.i .i64,.i .i64]):=cK.slice (r:=[.i .i64,.i .i64,.i .i64]) Tryz.underlying22 aP8 (by kernel_rfl) (by decide)
structure Field.WF (c:Field):Prop where
 points: ∀a∈c.points,RT.wf [.i .i64,.i .i64,.i .i64] a
def aAp:List SV->Prop:=fun vs=> ∃c:Field,vs=cC.enc c/\c.WF
theorem aDH:cK Tryz.prog 24 aAp:=(cK.struct (Ks:=[(VZ [.i .i64,.i .i64,.i .i64])]) Tryz.underlying24 (bC.cons (by kernel_rfl) aP9 (bC.nil)) (by kernel_rfl)).mono (by
 rintro vs ⟨_,b0,rfl,⟨c0,rfl,w0⟩,rfl⟩;refine ⟨⟨c0⟩,?_,⟨w0⟩⟩;simp only [List.append_nil]
 rfl)
theorem YI:cK Tryz.prog 26 (iK [.i .i64,.i .i64]):=(cK.struct (Ks:=[(iK [.i .i64]),(iK [.i .i64])]) Tryz.underlying26 (bC.cons (by kernel_rfl) aAo (bC.cons (by kernel_rfl) aAo (bC.nil))) (by kernel_rfl)).mono (fun vs h=>qB (rs:=[[.i .i64],[.i .i64]]) h)
theorem aQa:cK Tryz.prog 94 (iK [.i .i64,.i .i64]):=(cK.struct (Ks:=[(iK [.i .i64]),(iK [.i .i64])]) Tryz.underlying94 (bC.cons (by kernel_rfl) FD (bC.cons (by kernel_rfl) FD (bC.nil))) (by kernel_rfl)).mono (fun vs h=>qB (rs:=[[.i .i64],[.i .i64]]) h)
theorem aKs:cK Tryz.prog 117 (iK [.i .i64,.i .i64,.i .i64]):=(cK.struct (Ks:=[(iK [.i .i64]),(iK [.i .i64,.i .i64])]) Tryz.underlying117 (bC.cons (by kernel_rfl) FD (bC.cons (by kernel_rfl) aQa (bC.nil))) (by kernel_rfl)).mono (fun vs h=>qB (rs:=[[.i .i64],[.i .i64,.i .i64]]) h)
theorem aQb:cK Tryz.prog 27 (VZ [.i .i64,.i .i64,.i .i64]):=cK.slice (r:=[.i .i64,.i .i64,.i .i64]) Tryz.underlying27 aKs (by kernel_rfl) (by decide)
structure aV.WF (c:aV):Prop where
 next_:RT.wf [.i .i64] c.next_
 list: ∀a∈c.list,RT.wf [.i .i64,.i .i64,.i .i64] a
def aAq:List SV->Prop:=fun vs=> ∃c:aV,vs=gM.enc c/\c.WF
theorem aQc:cK Tryz.prog 29 aAq:=(cK.struct (Ks:=[(iK [.i .i64]),(VZ [.i .i64,.i .i64,.i .i64])]) Tryz.underlying29 (bC.cons (by kernel_rfl) FD (bC.cons (by kernel_rfl) aQb (bC.nil))) (by kernel_rfl)).mono (by
 rintro vs ⟨_,b0,rfl,⟨c0,rfl,w0⟩,_,b1,rfl,⟨c1,rfl,w1⟩,rfl⟩;refine ⟨⟨c0,c1⟩,?_,⟨w0,w1⟩⟩;simp only [List.append_nil]
 rfl)
theorem SJ:cK Tryz.prog 30 (VZ [.i .i64]):=cK.slice (r:=[.i .i64]) Tryz.underlying30 FD (by kernel_rfl) (by decide)
theorem aSA:cK Tryz.prog 4 (iK [.b]):=cK.bool Tryz.underlying4
theorem aQd:cK Tryz.prog 31 (VZ [.b]):=cK.slice (r:=[.b]) Tryz.underlying31 aSA (by kernel_rfl) (by decide)
structure aR.WF (c:aR):Prop where
 uses: ∀a∈c.uses,RT.wf [.i .i64] a
 used: ∀a∈c.used,RT.wf [.b] a
 free: ∀a∈c.free,RT.wf [.i .i64] a
def aAr:List SV->Prop:=fun vs=> ∃c:aR,vs=fN.enc c/\c.WF
theorem aQe:cK Tryz.prog 33 aAr:=(cK.struct (Ks:=[(VZ [.i .i64]),(VZ [.b]),(VZ [.i .i64])]) Tryz.underlying33 (bC.cons (by kernel_rfl) SJ (bC.cons (by kernel_rfl) aQd (bC.cons (by kernel_rfl) SJ (bC.nil)))) (by kernel_rfl)).mono (by
 rintro vs ⟨_,b0,rfl,⟨c0,rfl,w0⟩,_,b1,rfl,⟨c1,rfl,w1⟩,_,b2,rfl,⟨c2,rfl,w2⟩,rfl⟩;refine ⟨⟨c0,c1,c2⟩,?_,⟨w0,w1,w2⟩⟩;simp only [List.append_nil]
 rfl)
theorem aAs:cK Tryz.prog 128 (iK [.i .i64,.i .i64]):=(cK.struct (Ks:=[(iK [.i .i64]),(iK [.i .i64])]) Tryz.underlying128 (bC.cons (by kernel_rfl) FD (bC.cons (by kernel_rfl) FD (bC.nil))) (by kernel_rfl)).mono (fun vs h=>qB (rs:=[[.i .i64],[.i .i64]]) h)
theorem aKt:cK Tryz.prog 130 (iK [.i .i64,.i .i64,.i .i64,.i .i64,.i .i64]):=(cK.struct (Ks:=[(iK [.i .i64,.i .i64]),(iK [.i .i64]),(iK [.i .i64,.i .i64])]) Tryz.underlying130 (bC.cons (by kernel_rfl) YI (bC.cons (by kernel_rfl) FD (bC.cons (by kernel_rfl) aAs (bC.nil)))) (by kernel_rfl)).mono (fun vs h=>qB (rs:=[[.i .i64,.i .i64],[.i .i64],[.i .i64,.i .i64]]) h)
theorem aQf:cK Tryz.prog 34 (VZ [.i .i64,.i .i64,.i .i64,.i .i64,.i .i64]):=cK.slice (r:=[.i .i64,.i .i64,.i .i64,.i .i64,.i .i64]) Tryz.underlying34 aKt (by kernel_rfl) (by decide)
structure aH.WF (c:aH):Prop where
 slots:aR.WF c.slots
 heap: ∀a∈c.heap,RT.wf [.i .i64,.i .i64,.i .i64,.i .i64,.i .i64] a
 where_: ∀a∈c.where_,RT.wf [.i .i64] a
def VY:List SV->Prop:=fun vs=> ∃c:aH,vs=cS.enc c/\c.WF
theorem aQg:cK Tryz.prog 36 VY:=(cK.struct (Ks:=[aAr,(VZ [.i .i64,.i .i64,.i .i64,.i .i64,.i .i64]),(VZ [.i .i64])]) Tryz.underlying36 (bC.cons (by kernel_rfl) aQe (bC.cons (by kernel_rfl) aQf (bC.cons (by kernel_rfl) SJ (bC.nil)))) (by kernel_rfl)).mono (by
 rintro vs ⟨_,b0,rfl,⟨c0,rfl,w0⟩,_,b1,rfl,⟨c1,rfl,w1⟩,_,b2,rfl,⟨c2,rfl,w2⟩,rfl⟩;refine ⟨⟨c0,c1,c2⟩,?_,⟨w0,w1,w2⟩⟩;simp only [List.append_nil]
 rfl)
theorem aKu:cK Tryz.prog 152 (iK [.i .i64,.i .i64,.i .i64]):=(cK.struct (Ks:=[(iK [.i .i64]),(iK [.i .i64,.i .i64])]) Tryz.underlying152 (bC.cons (by kernel_rfl) FD (bC.cons (by kernel_rfl) aAs (bC.nil))) (by kernel_rfl)).mono (fun vs h=>qB (rs:=[[.i .i64],[.i .i64,.i .i64]]) h)
theorem aQh:cK Tryz.prog 37 (VZ [.i .i64,.i .i64,.i .i64]):=cK.slice (r:=[.i .i64,.i .i64,.i .i64]) Tryz.underlying37 aKu (by kernel_rfl) (by decide)
structure aO.WF (c:aO):Prop where
 now:RT.wf [.i .i64,.i .i64] c.now
 field:Field.WF c.field
 certs:aV.WF c.certs
 agenda:aH.WF c.agenda
 due: ∀a∈c.due,RT.wf [.i .i64,.i .i64,.i .i64] a
def aAt:List SV->Prop:=fun vs=> ∃c:aO,vs=bN.enc c/\c.WF
theorem aQi:cK Tryz.prog 39 aAt:=(cK.struct (Ks:=[(iK [.i .i64,.i .i64]),aAp,aAq,VY,(VZ [.i .i64,.i .i64,.i .i64])]) Tryz.underlying39 (bC.cons (by kernel_rfl) YI (bC.cons (by kernel_rfl) aDH (bC.cons (by kernel_rfl) aQc (bC.cons (by kernel_rfl) aQg (bC.cons (by kernel_rfl) aQh (bC.nil)))))) (by kernel_rfl)).mono (by
 rintro vs ⟨_,b0,rfl,⟨c0,rfl,w0⟩,_,b1,rfl,⟨c1,rfl,w1⟩,_,b2,rfl,⟨c2,rfl,w2⟩,_,b3,rfl,⟨c3,rfl,w3⟩,_,b4,rfl,⟨c4,rfl,w4⟩,rfl⟩;refine ⟨⟨c0,c1,c2,c3,c4⟩,?_,⟨w0,w1,w2,w3,w4⟩⟩;simp only [List.append_nil]
 rfl)
structure dP.WF (c:dP):Prop where
 clock:aO.WF c.clock
 up: ∀a∈c.up,RT.wf [.i .i64] a
def aDI:List SV->Prop:=fun vs=> ∃c:dP,vs=gR.enc c/\c.WF
theorem aQj:cK Tryz.prog 41 aDI:=(cK.struct (Ks:=[aAt,(VZ [.i .i64])]) Tryz.underlying41 (bC.cons (by kernel_rfl) aQi (bC.cons (by kernel_rfl) SJ (bC.nil))) (by kernel_rfl)).mono (by
 rintro vs ⟨_,b0,rfl,⟨c0,rfl,w0⟩,_,b1,rfl,⟨c1,rfl,w1⟩,rfl⟩;refine ⟨⟨c0,c1⟩,?_,⟨w0,w1⟩⟩;simp only [List.append_nil]
 rfl)
theorem aSB:Tryz.prog.readableRec 24=true/\24<Tryz.prog.types.size:=⟨by kernel_rfl,of_decide_eq_true (by kernel_rfl)⟩
theorem aSC:Tryz.prog.readableRec 26=true/\26<Tryz.prog.types.size:=⟨by kernel_rfl,of_decide_eq_true (by kernel_rfl)⟩
theorem aSD:Tryz.prog.readableRec 41=true/\41<Tryz.prog.types.size:=⟨by kernel_rfl,of_decide_eq_true (by kernel_rfl)⟩
theorem aUb:ownKnob Tryz.prog.godebug=none:=by kernel_rfl
theorem pU {a b:Bool} (h:a=true) (k:b=true):(a&&b)=true:=by rw [h,k];rfl
theorem Qk0:Rows.hangerBuildsRow.wf (OpenSpec.ofChange Rows.hangerBuildsSpec)=true:=by decide+kernel
theorem Qk1:laidOutB Tryz.prog=true:=by decide+kernel
theorem Qk2:mapsRowed Tryz.prog=true:=by decide+kernel
theorem Qk3:Tryz.f3.params.all (Tryz.prog.readableRec ·)=true:=by decide+kernel
theorem Qk4:namedTie Tryz.prog Rows.hangerBuildsRow.named Rows.hangerBuildsSpec.vars=true:=by decide+kernel
theorem Qk5:(Rows.hangerBuildsRow.stops==[])=true:=by decide+kernel
theorem Qk6:(Tryz.prog.stops==[])=true:=by decide+kernel
theorem Qk7:(Rows.hangerBuildsRow.knobs==[])=true:=by decide+kernel
theorem Qk8:(Tryz.prog.stopKnobs==[])=true:=by decide+kernel
theorem Qk9:(Rows.hangerBuildsRow.inPlace==Tryz.prog.inPlace 3)=true:=by decide+kernel
theorem aUc:(Rows.hangerBuildsRow.unfollowed==Tryz.prog.unfollowed 3)=true:=by decide+kernel
theorem aUd:(Rows.hangerBuildsRow.recurses==Tryz.prog.recurses 3)=true:=by decide+kernel
theorem aUe:(Rows.hangerBuildsRow.named==Tryz.prog.varsNamed 3)=true:=by decide+kernel
theorem aUf:(Rows.hangerBuildsRow.maps==(Tryz.f3.params.toList++Rows.hangerBuildsSpec.plain.varTypes Tryz.prog).any (Tryz.prog.mapsRec ·))=true:=by decide+kernel
theorem aUg:(Rows.hangerBuildsRow.ifaces==(Tryz.f3.params.toList++Rows.hangerBuildsSpec.plain.varTypes Tryz.prog).any (Tryz.prog.ifacesRec ·))=true:=by decide+kernel
theorem aUh:(Rows.hangerBuildsRow.mapsOut==Tryz.prog.mapsAmong Tryz.f3.resultTypes.toList)=true:=by decide+kernel
theorem aUi:(Rows.hangerBuildsRow.loops==(Tryz.f3.params.toList++Rows.hangerBuildsSpec.plain.varTypes Tryz.prog).any (Tryz.prog.loopsFrom ·))=true:=by decide+kernel
theorem aUj:(Rows.hangerBuildsRow.wideKeys==(Tryz.f3.params.toList++Rows.hangerBuildsSpec.plain.varTypes Tryz.prog++Tryz.f3.resultTypes.toList).any (Tryz.prog.wideKeysFrom ·))=true:=by decide+kernel
theorem aUk:Rows.hangerBuildsSpec.vars.all (Tryz.prog.varReadable ·)=true:=by decide+kernel
theorem aUl:Tryz.f3.resultTypes.all (fun t=>Tryz.prog.readableRec t&&decide (t<Tryz.prog.types.size))=true:=by decide+kernel
theorem aUm:(Rows.hangerBuildsRow.ifacesOut==Tryz.f3.resultTypes.toList.any (Tryz.prog.ifacesRec ·))=true:=by decide+kernel
theorem aUn:(Rows.hangerBuildsRow.loopsOut==Tryz.f3.resultTypes.toList.any (Tryz.prog.loopsFrom ·))=true:=by decide+kernel
theorem aUo:(Rows.hangerBuildsRow.plainKeys==Tryz.prog.plainKeys)=true:=by decide+kernel
theorem aUp:Rows.hangerBuildsRow.shortTexts.isNone=true:=by decide+kernel
theorem aUq:Tryz.prog.stopsHeard=true:=by decide+kernel
theorem aUr:Tryz.prog.mayEnter=true:=by decide+kernel
theorem aUs:(Rows.hangerBuildsRow.lifted==Tryz.prog.liftsFinal)=true:=by decide+kernel
theorem aUt:(Tryz.prog.make==some Rows.hangerBuildsRow.make)=true:=by decide+kernel
theorem aUu:(Rows.hangerBuildsRow.kinds==(if Rows.hangerBuildsRow.domain.isEmpty then [] else Tryz.f3.params.toList.map fun t=>match Tryz.prog.underlying t with|some (.int k)=>some k|_=>none))=true:=by decide+kernel
theorem aUv:(Rows.hangerBuildsRow.pinned==Rows.hangerBuildsRow.pinnedBy)=true:=by decide+kernel
theorem aUw:(Rows.hangerBuildsRow.veiled==(Tryz.f3.params.toList++Rows.hangerBuildsSpec.plain.varTypes Tryz.prog++Tryz.f3.resultTypes.toList).any (Tryz.prog.veiledRec ·))=true:=by decide+kernel
theorem aUx:Rows.hangerBuildsRow.veiledFits Tryz.prog Tryz.f3.params.toList (Tryz.f3.params.toList++Rows.hangerBuildsSpec.plain.varTypes Tryz.prog++Tryz.f3.resultTypes.toList)=true:=by decide+kernel
set_option maxRecDepth 100000 in
theorem aKv:joinedFacts Tryz.prog 3 Tryz.f3 Rows.hangerBuildsSpec Rows.hangerBuildsRow=true:=(pU (pU (pU (pU (pU (pU (pU (pU (pU (pU (pU (pU (pU (pU (pU (pU (pU (pU (pU (pU (pU (pU (pU (pU (pU (pU (pU (pU (pU (pU (pU Qk0 Qk1) Qk2) Qk3) Qk4) Qk5) Qk6) Qk7) Qk8) Qk9) aUc) aUd) aUe) aUf) aUg) aUh) aUi) aUj) aUk) aUl) aUm) aUn) aUo) aUp) aUq) aUr) aUs) aUt) aUu) aUv) aUw) aUx)
set_option maxRecDepth 100000 in
theorem aKw (os:Os) (started:os.Started) (H:Type) (enc:TypeId×Value->H):
 ReturnsInHanded {} Tryz.checked os 3 .any (Rows.hangerBuildsSpec.pre6 enc Tryz.prog Tryz.f3 Rows.hangerBuildsRow.domain false) (Rows.hangerBuildsSpec.post enc Tryz.prog Tryz.f3 false true false false):=by
 refine returnsInHanded_of_change (C:=Tryz.checked) aUb started (by kernel_rfl) Tryz.func3
  (ChangeSpec.witness6 (enc:=enc) (C:=Tryz.checked) false ⟨#[],#[.agg #[.slice none 0 0],.agg #[.int .i64 0,.int .i64 0],.agg #[.int .i64 0,.int .i64 0,.slice none 0 0,.int .i64 0,.slice none 0 0,.slice none 0 0,.slice none 0 0,.slice none 0 0,.slice none 0 0,.slice none 0 0,.slice none 0 0,.slice none 0 0]],[]⟩ 16 (by kernel_rfl) (by kernel_rfl) (by kernel_rfl) (by kernel_rfl)) ?_
 intro W base args ds gs before hval0 hW hcnd _;have hval: ∀(j:Nat) t v,Tryz.f3.params[j]? =some t->args[j]? =some v->Value.okWide Tryz.prog W .any base t v:=hval0;have hW':=hW;obtain ⟨p,q,hA0,hV,rfl,hfz,hnd⟩:=hW;have hA:DataW.TrodAll enc Tryz.prog W 0 (fun _=>true) true Tryz.f3.params.toList args.toList ds p:=hA0
 rw [Tryz.params3] at hA hval;obtain ⟨v0,vs0,d0,ds0,p0,q0,hargs,rfl,rfl,h0,r0⟩:=trodAll_cons hA;obtain ⟨v1,vs1,d1,ds1,p1,q1,rfl,rfl,rfl,h1,r1⟩:=trodAll_cons r0;obtain ⟨v2,vs2,d2,ds2,p2,q2,rfl,rfl,rfl,h2,r2⟩:=trodAll_cons r1;obtain ⟨rfl,rfl,rfl⟩:=trodAll_nil r2;obtain rfl:args= #[v0,v1,v2]:=by cases args;simp_all
 obtain ⟨rfl,rfl⟩:=trodVars_none hV;obtain ⟨_,g0,⟨a0,rfl,w0⟩,e0,k0⟩:=cK.argS aDH Tryz.underlying24 (hval 0 24 v0 rfl rfl) h0;obtain rfl:g0=(pvL (cC.enc a0)).getD []:=by rw [e0];rfl
 obtain ⟨_,g1,⟨a1,rfl,w1⟩,e1,k1⟩:=cK.argS YI Tryz.underlying26 (hval 1 26 v1 rfl rfl) h1;obtain rfl:g1=(pvL (RT.sv [.i .i64,.i .i64] a1)).getD []:=by rw [e1];rfl
 obtain ⟨_,g2,⟨a2,rfl,w2⟩,e2,k2⟩:=cK.argS aQj Tryz.underlying41 (hval 2 41 v2 rfl rfl) h2;obtain rfl:g2=(pvL (gR.enc a2)).getD []:=by rw [e2];rfl
 obtain ⟨n,s,z,hrun⟩:=aJ.runA aSs aKU (a:=(a0,a1,a2)) (AP a0 a1 a2 ⟨I5 w1.1,I5 w1.2⟩ (aKh.of w2.clock.now w2.clock.agenda.heap)) (ps:=[.agg ((pvL (cC.enc a0)).getD []),.agg ((pvL (RT.sv [.i .i64,.i .i64] a1)).getD []),.agg ((pvL (gR.enc a2)).getD [])]) rfl rfl
 refine (aAP (P:=Tryz.prog) (prims:=fun _=>true) (TT.tabOK ZC) (TT.primsOK ZC) nH hrun (us:=[v0,v1,v2]) (w:=W) (.cons _ _ _ _ k0 (.cons _ _ _ _ k1 (.cons _ _ _ _ k2 (.nil))))).mono fun e W' ⟨he,hb⟩=>?_
 subst he;exact ⟨_,rfl,aBU (P:=Tryz.prog) (bt:=4) Qk1 rfl rfl (by kernel_rfl) (by
  rw [Tryz.params3];intro t ht;simp only [List.mem_cons,List.not_mem_nil,or_false] at ht;rcases ht with rfl|rfl|rfl
  · exact aSB
  · exact aSC
  · exact aSD) hW' rfl hb⟩
theorem hangerBuilds_holds:Rows.HangerBuildsSaid:=
 OpenClaim.holds_of_wide 3 Tryz.f3 rfl rfl rfl rfl rfl rfl rfl ⟨rfl,rfl,rfl,rfl,rfl⟩ rfl rfl rfl rfl rfl (by kernel_rfl) Tryz.func3 aKv
  (of_decide_eq_true (by kernel_rfl)) (by unfold Func.isWrapper;first|(rw [if_pos (by decide+kernel)];kernel_rfl)|(rw [if_neg (by decide+kernel)];exact ⟨rfl,rfl⟩))
  (fun os started H enc _=>aKw os started H enc)
end Go.Proofs.YtbncnimfgdelaaaGreat
