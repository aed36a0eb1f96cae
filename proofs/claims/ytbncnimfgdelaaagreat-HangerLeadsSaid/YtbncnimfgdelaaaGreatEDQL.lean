/- The law HangerLeads returns true: its plain function gives true whatever comes in. -/
import Derived.Test.YtbncnimfgdelaaaGreatRows
import Derived.Test.YtbncnimfgdelaaaGreatEDQS2
import Derived.Test.YtbncnimfgdelaaaGreatEDQM4
import Derived.Test.YtbncnimfgdelaaaGreatEDVm3
namespace Go.Proofs.YtbncnimfgdelaaaGreat
open Go.ChangeShapes Go.WideShapes Go.ChangeAt Go.RowKit Go.Vm
theorem aAw:cV Tryz.prog 2 (jB [.i .i64]):=cV.int Tryz.underlying2
theorem Y0:cV Tryz.prog 26 (jB [.i .i64,.i .i64]):=(cV.struct (Ks:=[(jB [.i .i64]),(jB [.i .i64])]) Tryz.underlying26 (bH.cons (by kernel_rfl) aAw (bH.cons (by kernel_rfl) aAw (bH.nil))) (by kernel_rfl)).mono (fun vs h=>qJ (rs:=[[.i .i64],[.i .i64]]) h)
theorem GE:cV Tryz.prog 3 (jB [.i .i64]):=cV.int Tryz.underlying3
theorem aP6:cV Tryz.prog 67 (jB [.i .i64,.i .i64,.i .i64]):=(cV.struct (Ks:=[(jB [.i .i64]),(jB [.i .i64]),(jB [.i .i64])]) Tryz.underlying67 (bH.cons (by kernel_rfl) GE (bH.cons (by kernel_rfl) aAw (bH.cons (by kernel_rfl) aAw (bH.nil)))) (by kernel_rfl)).mono (fun vs h=>qJ (rs:=[[.i .i64],[.i .i64],[.i .i64]]) h)
theorem aP7:cV Tryz.prog 22 (WL [.i .i64,.i .i64,.i .i64]):=cV.slice (r:=[.i .i64,.i .i64,.i .i64]) Tryz.underlying22 aP6 (by kernel_rfl) (by decide)
structure Field.WF (c:Field):Prop where
 points: ∀a∈c.points,RT.wf [.i .i64,.i .i64,.i .i64] a
def aAx:List SV->Prop:=fun vs=> ∃c:Field,vs=dV.enc c/\c.WF
theorem aP8:cV Tryz.prog 24 aAx:=(cV.struct (Ks:=[(WL [.i .i64,.i .i64,.i .i64])]) Tryz.underlying24 (bH.cons (by kernel_rfl) aP7 (bH.nil)) (by kernel_rfl)).mono (by
 rintro vs ⟨_,b0,rfl,⟨c0,rfl,w0⟩,rfl⟩;refine ⟨⟨c0⟩,?_,⟨w0⟩⟩;simp only [List.append_nil]
 rfl)
theorem aP9:cV Tryz.prog 94 (jB [.i .i64,.i .i64]):=(cV.struct (Ks:=[(jB [.i .i64]),(jB [.i .i64])]) Tryz.underlying94 (bH.cons (by kernel_rfl) GE (bH.cons (by kernel_rfl) GE (bH.nil))) (by kernel_rfl)).mono (fun vs h=>qJ (rs:=[[.i .i64],[.i .i64]]) h)
theorem aKx:cV Tryz.prog 117 (jB [.i .i64,.i .i64,.i .i64]):=(cV.struct (Ks:=[(jB [.i .i64]),(jB [.i .i64,.i .i64])]) Tryz.underlying117 (bH.cons (by kernel_rfl) GE (bH.cons (by kernel_rfl) aP9 (bH.nil))) (by kernel_rfl)).mono (fun vs h=>qJ (rs:=[[.i .i64],[.i .i64,.i .i64]]) h)
theorem aQa:cV Tryz.prog 27 (WL [.i .i64,.i .i64,.i .i64]):=cV.slice (r:=[.i .i64,.i .i64,.i .i64]) Tryz.underlying27 aKx (by kernel_rfl) (by decide)
structure bF.WF (c:bF):Prop where
 next_:RT.wf [.i .i64] c.next_
 list: ∀a∈c.list,RT.wf [.i .i64,.i .i64,.i .i64] a
def aAy:List SV->Prop:=fun vs=> ∃c:bF,vs=qZ.enc c/\c.WF
theorem aQb:cV Tryz.prog 29 aAy:=(cV.struct (Ks:=[(jB [.i .i64]),(WL [.i .i64,.i .i64,.i .i64])]) Tryz.underlying29 (bH.cons (by kernel_rfl) GE (bH.cons (by kernel_rfl) aQa (bH.nil))) (by kernel_rfl)).mono (by
 rintro vs ⟨_,b0,rfl,⟨c0,rfl,w0⟩,_,b1,rfl,⟨c1,rfl,w1⟩,rfl⟩;refine ⟨⟨c0,c1⟩,?_,⟨w0,w1⟩⟩;simp only [List.append_nil]
 rfl)
theorem S7:cV Tryz.prog 30 (WL [.i .i64]):=cV.slice (r:=[.i .i64]) Tryz.underlying30 GE (by kernel_rfl) (by decide)
theorem aSs:cV Tryz.prog 4 (jB [.b]):=cV.bool Tryz.underlying4
theorem aQc:cV Tryz.prog 31 (WL [.b]):=cV.slice (r:=[.b]) Tryz.underlying31 aSs (by kernel_rfl) (by decide)
structure aU.WF (c:aU):Prop where
 uses: ∀a∈c.uses,RT.wf [.i .i64] a
 used: ∀a∈c.used,RT.wf [.b] a
 free: ∀a∈c.free,RT.wf [.i .i64] a
def aAz:List SV->Prop:=fun vs=> ∃c:aU,vs=pQ.enc c/\c.WF
theorem aQd:cV Tryz.prog 33 aAz:=(cV.struct (Ks:=[(WL [.i .i64]),(WL [.b]),(WL [.i .i64])]) Tryz.underlying33 (bH.cons (by kernel_rfl) S7 (bH.cons (by kernel_rfl) aQc (bH.cons (by kernel_rfl) S7 (bH.nil)))) (by kernel_rfl)).mono (by
 rintro vs ⟨_,b0,rfl,⟨c0,rfl,w0⟩,_,b1,rfl,⟨c1,rfl,w1⟩,_,b2,rfl,⟨c2,rfl,w2⟩,rfl⟩;refine ⟨⟨c0,c1,c2⟩,?_,⟨w0,w1,w2⟩⟩;simp only [List.append_nil]
 rfl)
theorem aAA:cV Tryz.prog 128 (jB [.i .i64,.i .i64]):=(cV.struct (Ks:=[(jB [.i .i64]),(jB [.i .i64])]) Tryz.underlying128 (bH.cons (by kernel_rfl) GE (bH.cons (by kernel_rfl) GE (bH.nil))) (by kernel_rfl)).mono (fun vs h=>qJ (rs:=[[.i .i64],[.i .i64]]) h)
theorem aKy:cV Tryz.prog 130 (jB [.i .i64,.i .i64,.i .i64,.i .i64,.i .i64]):=(cV.struct (Ks:=[(jB [.i .i64,.i .i64]),(jB [.i .i64]),(jB [.i .i64,.i .i64])]) Tryz.underlying130 (bH.cons (by kernel_rfl) Y0 (bH.cons (by kernel_rfl) GE (bH.cons (by kernel_rfl) aAA (bH.nil)))) (by kernel_rfl)).mono (fun vs h=>qJ (rs:=[[.i .i64,.i .i64],[.i .i64],[.i .i64,.i .i64]]) h)
theorem aQe:cV Tryz.prog 34 (WL [.i .i64,.i .i64,.i .i64,.i .i64,.i .i64]):=cV.slice (r:=[.i .i64,.i .i64,.i .i64,.i .i64,.i .i64]) Tryz.underlying34 aKy (by kernel_rfl) (by decide)
structure aK.WF (c:aK):Prop where
 slots:aU.WF c.slots
 heap: ∀a∈c.heap,RT.wf [.i .i64,.i .i64,.i .i64,.i .i64,.i .i64] a
 where_: ∀a∈c.where_,RT.wf [.i .i64] a
def WK:List SV->Prop:=fun vs=> ∃c:aK,vs=hH.enc c/\c.WF
theorem aQf:cV Tryz.prog 36 WK:=(cV.struct (Ks:=[aAz,(WL [.i .i64,.i .i64,.i .i64,.i .i64,.i .i64]),(WL [.i .i64])]) Tryz.underlying36 (bH.cons (by kernel_rfl) aQd (bH.cons (by kernel_rfl) aQe (bH.cons (by kernel_rfl) S7 (bH.nil)))) (by kernel_rfl)).mono (by
 rintro vs ⟨_,b0,rfl,⟨c0,rfl,w0⟩,_,b1,rfl,⟨c1,rfl,w1⟩,_,b2,rfl,⟨c2,rfl,w2⟩,rfl⟩;refine ⟨⟨c0,c1,c2⟩,?_,⟨w0,w1,w2⟩⟩;simp only [List.append_nil]
 rfl)
theorem aKz:cV Tryz.prog 152 (jB [.i .i64,.i .i64,.i .i64]):=(cV.struct (Ks:=[(jB [.i .i64]),(jB [.i .i64,.i .i64])]) Tryz.underlying152 (bH.cons (by kernel_rfl) GE (bH.cons (by kernel_rfl) aAA (bH.nil))) (by kernel_rfl)).mono (fun vs h=>qJ (rs:=[[.i .i64],[.i .i64,.i .i64]]) h)
theorem aQg:cV Tryz.prog 37 (WL [.i .i64,.i .i64,.i .i64]):=cV.slice (r:=[.i .i64,.i .i64,.i .i64]) Tryz.underlying37 aKz (by kernel_rfl) (by decide)
structure aL.WF (c:aL):Prop where
 now:RT.wf [.i .i64,.i .i64] c.now
 field:Field.WF c.field
 certs:bF.WF c.certs
 agenda:aK.WF c.agenda
 due: ∀a∈c.due,RT.wf [.i .i64,.i .i64,.i .i64] a
def aAB:List SV->Prop:=fun vs=> ∃c:aL,vs=dF.enc c/\c.WF
theorem aQh:cV Tryz.prog 39 aAB:=(cV.struct (Ks:=[(jB [.i .i64,.i .i64]),aAx,aAy,WK,(WL [.i .i64,.i .i64,.i .i64])]) Tryz.underlying39 (bH.cons (by kernel_rfl) Y0 (bH.cons (by kernel_rfl) aP8 (bH.cons (by kernel_rfl) aQb (bH.cons (by kernel_rfl) aQf (bH.cons (by kernel_rfl) aQg (bH.nil)))))) (by kernel_rfl)).mono (by
 rintro vs ⟨_,b0,rfl,⟨c0,rfl,w0⟩,_,b1,rfl,⟨c1,rfl,w1⟩,_,b2,rfl,⟨c2,rfl,w2⟩,_,b3,rfl,⟨c3,rfl,w3⟩,_,b4,rfl,⟨c4,rfl,w4⟩,rfl⟩;refine ⟨⟨c0,c1,c2,c3,c4⟩,?_,⟨w0,w1,w2,w3,w4⟩⟩;simp only [List.append_nil]
 rfl)
structure cB.WF (c:cB):Prop where
 clock:aL.WF c.clock
 up: ∀a∈c.up,RT.wf [.i .i64] a
def aD8:List SV->Prop:=fun vs=> ∃c:cB,vs=kG.enc c/\c.WF
theorem aQi:cV Tryz.prog 41 aD8:=(cV.struct (Ks:=[aAB,(WL [.i .i64])]) Tryz.underlying41 (bH.cons (by kernel_rfl) aQh (bH.cons (by kernel_rfl) S7 (bH.nil))) (by kernel_rfl)).mono (by
 rintro vs ⟨_,b0,rfl,⟨c0,rfl,w0⟩,_,b1,rfl,⟨c1,rfl,w1⟩,rfl⟩;refine ⟨⟨c0,c1⟩,?_,⟨w0,w1⟩⟩;simp only [List.append_nil]
 rfl)
theorem aSt:Tryz.prog.readableRec 41=true/\41<Tryz.prog.types.size:=⟨by kernel_rfl,of_decide_eq_true (by kernel_rfl)⟩
theorem aSu:Tryz.prog.readableRec 26=true/\26<Tryz.prog.types.size:=⟨by kernel_rfl,of_decide_eq_true (by kernel_rfl)⟩
theorem aUc:ownKnob Tryz.prog.godebug=none:=by kernel_rfl
theorem qC {a b:Bool} (h:a=true) (k:b=true):(a&&b)=true:=by rw [h,k];rfl
theorem Qk0:Rows.hangerLeadsRow.wf (OpenSpec.ofChange Rows.hangerLeadsSpec)=true:=by decide+kernel
theorem Qk1:laidOutB Tryz.prog=true:=by decide+kernel
theorem Qk2:mapsRowed Tryz.prog=true:=by decide+kernel
theorem Qk3:Tryz.f8.params.all (Tryz.prog.readableRec ·)=true:=by decide+kernel
theorem Qk4:namedTie Tryz.prog Rows.hangerLeadsRow.named Rows.hangerLeadsSpec.vars=true:=by decide+kernel
theorem Qk5:(Rows.hangerLeadsRow.stops==[])=true:=by decide+kernel
theorem Qk6:(Tryz.prog.stops==[])=true:=by decide+kernel
theorem Qk7:(Rows.hangerLeadsRow.knobs==[])=true:=by decide+kernel
theorem Qk8:(Tryz.prog.stopKnobs==[])=true:=by decide+kernel
theorem Qk9:(Rows.hangerLeadsRow.inPlace==Tryz.prog.inPlace 8)=true:=by decide+kernel
theorem aUd:(Rows.hangerLeadsRow.unfollowed==Tryz.prog.unfollowed 8)=true:=by decide+kernel
theorem aUe:(Rows.hangerLeadsRow.recurses==Tryz.prog.recurses 8)=true:=by decide+kernel
theorem aUf:(Rows.hangerLeadsRow.named==Tryz.prog.varsNamed 8)=true:=by decide+kernel
theorem aUg:(Rows.hangerLeadsRow.maps==(Tryz.f8.params.toList++Rows.hangerLeadsSpec.plain.varTypes Tryz.prog).any (Tryz.prog.mapsRec ·))=true:=by decide+kernel
theorem aUh:(Rows.hangerLeadsRow.ifaces==(Tryz.f8.params.toList++Rows.hangerLeadsSpec.plain.varTypes Tryz.prog).any (Tryz.prog.ifacesRec ·))=true:=by decide+kernel
theorem aUi:(Rows.hangerLeadsRow.mapsOut==Tryz.prog.mapsAmong Tryz.f8.resultTypes.toList)=true:=by decide+kernel
theorem aUj:(Rows.hangerLeadsRow.loops==(Tryz.f8.params.toList++Rows.hangerLeadsSpec.plain.varTypes Tryz.prog).any (Tryz.prog.loopsFrom ·))=true:=by decide+kernel
theorem aUk:(Rows.hangerLeadsRow.wideKeys==(Tryz.f8.params.toList++Rows.hangerLeadsSpec.plain.varTypes Tryz.prog++Tryz.f8.resultTypes.toList).any (Tryz.prog.wideKeysFrom ·))=true:=by decide+kernel
theorem aUl:Rows.hangerLeadsSpec.vars.all (Tryz.prog.varReadable ·)=true:=by decide+kernel
theorem aUm:Tryz.f8.resultTypes.all (fun t=>Tryz.prog.readableRec t&&decide (t<Tryz.prog.types.size))=true:=by decide+kernel
theorem aUn:(Rows.hangerLeadsRow.ifacesOut==Tryz.f8.resultTypes.toList.any (Tryz.prog.ifacesRec ·))=true:=by decide+kernel
theorem aUo:(Rows.hangerLeadsRow.loopsOut==Tryz.f8.resultTypes.toList.any (Tryz.prog.loopsFrom ·))=true:=by decide+kernel
theorem aUp:(Rows.hangerLeadsRow.plainKeys==Tryz.prog.plainKeys)=true:=by decide+kernel
theorem aUq:Rows.hangerLeadsRow.shortTexts.isNone=true:=by decide+kernel
theorem aUr:Tryz.prog.stopsHeard=true:=by decide+kernel
theorem aUs:Tryz.prog.mayEnter=true:=by decide+kernel
theorem aUt:(Rows.hangerLeadsRow.lifted==Tryz.prog.liftsFinal)=true:=by decide+kernel
theorem aUu:(Tryz.prog.make==some Rows.hangerLeadsRow.make)=true:=by decide+kernel
theorem aUv:(Rows.hangerLeadsRow.kinds==(if Rows.hangerLeadsRow.domain.isEmpty then [] else Tryz.f8.params.toList.map fun t=>match Tryz.prog.underlying t with|some (.int k)=>some k|_=>none))=true:=by decide+kernel
theorem aUw:(Rows.hangerLeadsRow.pinned==Rows.hangerLeadsRow.pinnedBy)=true:=by decide+kernel
theorem aUx:(Rows.hangerLeadsRow.veiled==(Tryz.f8.params.toList++Rows.hangerLeadsSpec.plain.varTypes Tryz.prog++Tryz.f8.resultTypes.toList).any (Tryz.prog.veiledRec ·))=true:=by decide+kernel
theorem aUy:Rows.hangerLeadsRow.veiledFits Tryz.prog Tryz.f8.params.toList (Tryz.f8.params.toList++Rows.hangerLeadsSpec.plain.varTypes Tryz.prog++Tryz.f8.resultTypes.toList)=true:=by decide+kernel
set_option maxRecDepth 100000 in
theorem aKA:joinedFacts Tryz.prog 8 Tryz.f8 Rows.hangerLeadsSpec Rows.hangerLeadsRow=true:=(qC (qC (qC (qC (qC (qC (qC (qC (qC (qC (qC (qC (qC (qC (qC (qC (qC (qC (qC (qC (qC (qC (qC (qC (qC (qC (qC (qC (qC (qC (qC Qk0 Qk1) Qk2) Qk3) Qk4) Qk5) Qk6) Qk7) Qk8) Qk9) aUd) aUe) aUf) aUg) aUh) aUi) aUj) aUk) aUl) aUm) aUn) aUo) aUp) aUq) aUr) aUs) aUt) aUu) aUv) aUw) aUx) aUy)
set_option maxRecDepth 100000 in
theorem aKB (os:Os) (started:os.Started) (H:Type) (enc:TypeId×Value->H):
 ReturnsInHanded {} Tryz.checked os 8 .any (Rows.hangerLeadsSpec.pre6 enc Tryz.prog Tryz.f8 Rows.hangerLeadsRow.domain false) (Rows.hangerLeadsSpec.post enc Tryz.prog Tryz.f8 false true false false):=by
 refine returnsInHanded_of_change (C:=Tryz.checked) aUc started (by kernel_rfl) Tryz.func8
  (ChangeSpec.witness6 (enc:=enc) (C:=Tryz.checked) false ⟨#[],#[.agg #[.int .i64 0,.int .i64 0,.slice none 0 0,.int .i64 0,.slice none 0 0,.slice none 0 0,.slice none 0 0,.slice none 0 0,.slice none 0 0,.slice none 0 0,.slice none 0 0,.slice none 0 0],.agg #[.int .i64 0,.int .i64 0]],[]⟩ 16 (by kernel_rfl) (by kernel_rfl) (by kernel_rfl) (by kernel_rfl)) ?_
 intro W base args ds gs before hval0 hW hcnd _;have hval: ∀(j:Nat) t v,Tryz.f8.params[j]? =some t->args[j]? =some v->Value.okWide Tryz.prog W .any base t v:=hval0;have hW':=hW;obtain ⟨p,q,hA0,hV,rfl,hfz,hnd⟩:=hW;have hA:DataW.TrodAll enc Tryz.prog W 0 (fun _=>true) true Tryz.f8.params.toList args.toList ds p:=hA0
 rw [Tryz.params8] at hA hval;obtain ⟨v0,vs0,d0,ds0,p0,q0,hargs,rfl,rfl,h0,r0⟩:=trodAll_cons hA;obtain ⟨v1,vs1,d1,ds1,p1,q1,rfl,rfl,rfl,h1,r1⟩:=trodAll_cons r0;obtain ⟨rfl,rfl,rfl⟩:=trodAll_nil r1;obtain rfl:args= #[v0,v1]:=by cases args;simp_all
 obtain ⟨rfl,rfl⟩:=trodVars_none hV;obtain ⟨_,g0,⟨a0,rfl,w0⟩,e0,k0⟩:=cV.argS aQi Tryz.underlying41 (hval 0 41 v0 rfl rfl) h0;obtain rfl:g0=(pvL (kG.enc a0)).getD []:=by rw [e0];rfl
 obtain ⟨_,g1,⟨a1,rfl,w1⟩,e1,k1⟩:=cV.argS Y0 Tryz.underlying26 (hval 1 26 v1 rfl rfl) h1;obtain rfl:g1=(pvL (RT.sv [.i .i64,.i .i64] a1)).getD []:=by rw [e1];rfl
 obtain ⟨n,s,z,hrun⟩:=aN.runA aSg aKY (a:=(a0,a1)) (CZ a0 a1 (aDN.of w0.clock.now w0.clock.agenda.heap) ⟨J3 w1.1,J3 w1.2⟩) (ps:=[.agg ((pvL (kG.enc a0)).getD []),.agg ((pvL (RT.sv [.i .i64,.i .i64] a1)).getD [])]) rfl rfl
 refine (aAX (P:=Tryz.prog) (prims:=fun _=>true) (TT.tabOK ZU) (TT.primsOK ZU) nY hrun (us:=[v0,v1]) (w:=W) (.cons _ _ _ _ k0 (.cons _ _ _ _ k1 (.nil)))).mono fun e W' ⟨he,hb⟩=>?_
 subst he;exact ⟨_,rfl,aCa (P:=Tryz.prog) (bt:=4) Qk1 rfl rfl (by kernel_rfl) (by
  rw [Tryz.params8];intro t ht;simp only [List.mem_cons,List.not_mem_nil,or_false] at ht;rcases ht with rfl|rfl
  · exact aSt
  · exact aSu) hW' rfl hb⟩
theorem hangerLeads_holds:Rows.HangerLeadsSaid:=
 OpenClaim.holds_of_wide 8 Tryz.f8 rfl rfl rfl rfl rfl rfl rfl ⟨rfl,rfl,rfl,rfl,rfl⟩ rfl rfl rfl rfl rfl (by kernel_rfl) Tryz.func8 aKA
  (of_decide_eq_true (by kernel_rfl)) (by unfold Func.isWrapper;first|(rw [if_pos (by decide+kernel)];kernel_rfl)|(rw [if_neg (by decide+kernel)];exact ⟨rfl,rfl⟩))
  (fun os started H enc _=>aKB os started H enc)
end Go.Proofs.YtbncnimfgdelaaaGreat
