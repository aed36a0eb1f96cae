/- The law HangerEdits returns true: its plain function gives true whatever comes in. -/
import Derived.Test.YtbncnimfgdelaaaGreatRows
import Derived.Test.YtbncnimfgdelaaaGreatDCQS2
import Derived.Test.YtbncnimfgdelaaaGreatDCQM4
import Derived.Test.YtbncnimfgdelaaaGreatDCVm3
namespace Go.Proofs.YtbncnimfgdelaaaGreat
open Go.ChangeShapes Go.WideShapes Go.ChangeAt Go.RowKit Go.Vm
theorem aAg:cM Tryz.prog 2 (iT [.i .i64]):=cM.int Tryz.underlying2
theorem aDC:cM Tryz.prog 26 (iT [.i .i64,.i .i64]):=(cM.struct (Ks:=[(iT [.i .i64]),(iT [.i .i64])]) Tryz.underlying26 (bE.cons (by kernel_rfl) aAg (bE.cons (by kernel_rfl) aAg (bE.nil))) (by kernel_rfl)).mono (fun vs h=>qH (rs:=[[.i .i64],[.i .i64]]) h)
theorem FV:cM Tryz.prog 3 (iT [.i .i64]):=cM.int Tryz.underlying3
theorem aDD:cM Tryz.prog 67 (iT [.i .i64,.i .i64,.i .i64]):=(cM.struct (Ks:=[(iT [.i .i64]),(iT [.i .i64]),(iT [.i .i64])]) Tryz.underlying67 (bE.cons (by kernel_rfl) FV (bE.cons (by kernel_rfl) aAg (bE.cons (by kernel_rfl) aAg (bE.nil)))) (by kernel_rfl)).mono (fun vs h=>qH (rs:=[[.i .i64],[.i .i64],[.i .i64]]) h)
theorem aPf:cM Tryz.prog 22 (V7 [.i .i64,.i .i64,.i .i64]):=cM.slice (r:=[.i .i64,.i .i64,.i .i64]) Tryz.underlying22 aDD (by kernel_rfl) (by decide)
structure Field.WF (c:Field):Prop where
 points: ∀a∈c.points,RT.wf [.i .i64,.i .i64,.i .i64] a
def aAh:List SV->Prop:=fun vs=> ∃c:Field,vs=bZ.enc c/\c.WF
theorem aPg:cM Tryz.prog 24 aAh:=(cM.struct (Ks:=[(V7 [.i .i64,.i .i64,.i .i64])]) Tryz.underlying24 (bE.cons (by kernel_rfl) aPf (bE.nil)) (by kernel_rfl)).mono (by
 rintro vs ⟨_,b0,rfl,⟨c0,rfl,w0⟩,rfl⟩;refine ⟨⟨c0⟩,?_,⟨w0⟩⟩;simp only [List.append_nil]
 rfl)
theorem aPh:cM Tryz.prog 94 (iT [.i .i64,.i .i64]):=(cM.struct (Ks:=[(iT [.i .i64]),(iT [.i .i64])]) Tryz.underlying94 (bE.cons (by kernel_rfl) FV (bE.cons (by kernel_rfl) FV (bE.nil))) (by kernel_rfl)).mono (fun vs h=>qH (rs:=[[.i .i64],[.i .i64]]) h)
theorem aJE:cM Tryz.prog 117 (iT [.i .i64,.i .i64,.i .i64]):=(cM.struct (Ks:=[(iT [.i .i64]),(iT [.i .i64,.i .i64])]) Tryz.underlying117 (bE.cons (by kernel_rfl) FV (bE.cons (by kernel_rfl) aPh (bE.nil))) (by kernel_rfl)).mono (fun vs h=>qH (rs:=[[.i .i64],[.i .i64,.i .i64]]) h)
theorem aPi:cM Tryz.prog 27 (V7 [.i .i64,.i .i64,.i .i64]):=cM.slice (r:=[.i .i64,.i .i64,.i .i64]) Tryz.underlying27 aJE (by kernel_rfl) (by decide)
structure aZ.WF (c:aZ):Prop where
 next_:RT.wf [.i .i64] c.next_
 list: ∀a∈c.list,RT.wf [.i .i64,.i .i64,.i .i64] a
def aAi:List SV->Prop:=fun vs=> ∃c:aZ,vs=qZ.enc c/\c.WF
theorem aPj:cM Tryz.prog 29 aAi:=(cM.struct (Ks:=[(iT [.i .i64]),(V7 [.i .i64,.i .i64,.i .i64])]) Tryz.underlying29 (bE.cons (by kernel_rfl) FV (bE.cons (by kernel_rfl) aPi (bE.nil))) (by kernel_rfl)).mono (by
 rintro vs ⟨_,b0,rfl,⟨c0,rfl,w0⟩,_,b1,rfl,⟨c1,rfl,w1⟩,rfl⟩;refine ⟨⟨c0,c1⟩,?_,⟨w0,w1⟩⟩;simp only [List.append_nil]
 rfl)
theorem SS:cM Tryz.prog 30 (V7 [.i .i64]):=cM.slice (r:=[.i .i64]) Tryz.underlying30 FV (by kernel_rfl) (by decide)
theorem aRv:cM Tryz.prog 4 (iT [.b]):=cM.bool Tryz.underlying4
theorem aPk:cM Tryz.prog 31 (V7 [.b]):=cM.slice (r:=[.b]) Tryz.underlying31 aRv (by kernel_rfl) (by decide)
structure aT.WF (c:aT):Prop where
 uses: ∀a∈c.uses,RT.wf [.i .i64] a
 used: ∀a∈c.used,RT.wf [.b] a
 free: ∀a∈c.free,RT.wf [.i .i64] a
def aAj:List SV->Prop:=fun vs=> ∃c:aT,vs=pM.enc c/\c.WF
theorem aPl:cM Tryz.prog 33 aAj:=(cM.struct (Ks:=[(V7 [.i .i64]),(V7 [.b]),(V7 [.i .i64])]) Tryz.underlying33 (bE.cons (by kernel_rfl) SS (bE.cons (by kernel_rfl) aPk (bE.cons (by kernel_rfl) SS (bE.nil)))) (by kernel_rfl)).mono (by
 rintro vs ⟨_,b0,rfl,⟨c0,rfl,w0⟩,_,b1,rfl,⟨c1,rfl,w1⟩,_,b2,rfl,⟨c2,rfl,w2⟩,rfl⟩;refine ⟨⟨c0,c1,c2⟩,?_,⟨w0,w1,w2⟩⟩;simp only [List.append_nil]
 rfl)
theorem aAk:cM Tryz.prog 128 (iT [.i .i64,.i .i64]):=(cM.struct (Ks:=[(iT [.i .i64]),(iT [.i .i64])]) Tryz.underlying128 (bE.cons (by kernel_rfl) FV (bE.cons (by kernel_rfl) FV (bE.nil))) (by kernel_rfl)).mono (fun vs h=>qH (rs:=[[.i .i64],[.i .i64]]) h)
theorem aJF:cM Tryz.prog 130 (iT [.i .i64,.i .i64,.i .i64,.i .i64,.i .i64]):=(cM.struct (Ks:=[(iT [.i .i64,.i .i64]),(iT [.i .i64]),(iT [.i .i64,.i .i64])]) Tryz.underlying130 (bE.cons (by kernel_rfl) aDC (bE.cons (by kernel_rfl) FV (bE.cons (by kernel_rfl) aAk (bE.nil)))) (by kernel_rfl)).mono (fun vs h=>qH (rs:=[[.i .i64,.i .i64],[.i .i64],[.i .i64,.i .i64]]) h)
theorem aPm:cM Tryz.prog 34 (V7 [.i .i64,.i .i64,.i .i64,.i .i64,.i .i64]):=cM.slice (r:=[.i .i64,.i .i64,.i .i64,.i .i64,.i .i64]) Tryz.underlying34 aJF (by kernel_rfl) (by decide)
structure aI.WF (c:aI):Prop where
 slots:aT.WF c.slots
 heap: ∀a∈c.heap,RT.wf [.i .i64,.i .i64,.i .i64,.i .i64,.i .i64] a
 where_: ∀a∈c.where_,RT.wf [.i .i64] a
def V6:List SV->Prop:=fun vs=> ∃c:aI,vs=gW.enc c/\c.WF
theorem aPn:cM Tryz.prog 36 V6:=(cM.struct (Ks:=[aAj,(V7 [.i .i64,.i .i64,.i .i64,.i .i64,.i .i64]),(V7 [.i .i64])]) Tryz.underlying36 (bE.cons (by kernel_rfl) aPl (bE.cons (by kernel_rfl) aPm (bE.cons (by kernel_rfl) SS (bE.nil)))) (by kernel_rfl)).mono (by
 rintro vs ⟨_,b0,rfl,⟨c0,rfl,w0⟩,_,b1,rfl,⟨c1,rfl,w1⟩,_,b2,rfl,⟨c2,rfl,w2⟩,rfl⟩;refine ⟨⟨c0,c1,c2⟩,?_,⟨w0,w1,w2⟩⟩;simp only [List.append_nil]
 rfl)
theorem aJG:cM Tryz.prog 152 (iT [.i .i64,.i .i64,.i .i64]):=(cM.struct (Ks:=[(iT [.i .i64]),(iT [.i .i64,.i .i64])]) Tryz.underlying152 (bE.cons (by kernel_rfl) FV (bE.cons (by kernel_rfl) aAk (bE.nil))) (by kernel_rfl)).mono (fun vs h=>qH (rs:=[[.i .i64],[.i .i64,.i .i64]]) h)
theorem aPo:cM Tryz.prog 37 (V7 [.i .i64,.i .i64,.i .i64]):=cM.slice (r:=[.i .i64,.i .i64,.i .i64]) Tryz.underlying37 aJG (by kernel_rfl) (by decide)
structure aP.WF (c:aP):Prop where
 now:RT.wf [.i .i64,.i .i64] c.now
 field:Field.WF c.field
 certs:aZ.WF c.certs
 agenda:aI.WF c.agenda
 due: ∀a∈c.due,RT.wf [.i .i64,.i .i64,.i .i64] a
def aAl:List SV->Prop:=fun vs=> ∃c:aP,vs=dC.enc c/\c.WF
theorem aPp:cM Tryz.prog 39 aAl:=(cM.struct (Ks:=[(iT [.i .i64,.i .i64]),aAh,aAi,V6,(V7 [.i .i64,.i .i64,.i .i64])]) Tryz.underlying39 (bE.cons (by kernel_rfl) aDC (bE.cons (by kernel_rfl) aPg (bE.cons (by kernel_rfl) aPj (bE.cons (by kernel_rfl) aPn (bE.cons (by kernel_rfl) aPo (bE.nil)))))) (by kernel_rfl)).mono (by
 rintro vs ⟨_,b0,rfl,⟨c0,rfl,w0⟩,_,b1,rfl,⟨c1,rfl,w1⟩,_,b2,rfl,⟨c2,rfl,w2⟩,_,b3,rfl,⟨c3,rfl,w3⟩,_,b4,rfl,⟨c4,rfl,w4⟩,rfl⟩;refine ⟨⟨c0,c1,c2,c3,c4⟩,?_,⟨w0,w1,w2,w3,w4⟩⟩;simp only [List.append_nil]
 rfl)
structure bA.WF (c:bA):Prop where
 clock:aP.WF c.clock
 up: ∀a∈c.up,RT.wf [.i .i64] a
def aDE:List SV->Prop:=fun vs=> ∃c:bA,vs=dX.enc c/\c.WF
theorem aPq:cM Tryz.prog 41 aDE:=(cM.struct (Ks:=[aAl,(V7 [.i .i64])]) Tryz.underlying41 (bE.cons (by kernel_rfl) aPp (bE.cons (by kernel_rfl) SS (bE.nil))) (by kernel_rfl)).mono (by
 rintro vs ⟨_,b0,rfl,⟨c0,rfl,w0⟩,_,b1,rfl,⟨c1,rfl,w1⟩,rfl⟩;refine ⟨⟨c0,c1⟩,?_,⟨w0,w1⟩⟩;simp only [List.append_nil]
 rfl)
theorem aRw:Tryz.prog.readableRec 41=true/\41<Tryz.prog.types.size:=⟨by kernel_rfl,of_decide_eq_true (by kernel_rfl)⟩
theorem aRx:Tryz.prog.readableRec 67=true/\67<Tryz.prog.types.size:=⟨by kernel_rfl,of_decide_eq_true (by kernel_rfl)⟩
theorem aS6:Tryz.prog.readableRec 3=true/\3<Tryz.prog.types.size:=⟨by kernel_rfl,of_decide_eq_true (by kernel_rfl)⟩
theorem aS7:ownKnob Tryz.prog.godebug=none:=by kernel_rfl
theorem qA {a b:Bool} (h:a=true) (k:b=true):(a&&b)=true:=by rw [h,k];rfl
theorem Qk0:Rows.hangerEditsRow.wf (OpenSpec.ofChange Rows.hangerEditsSpec)=true:=by decide+kernel
theorem Qk1:laidOutB Tryz.prog=true:=by decide+kernel
theorem Qk2:mapsRowed Tryz.prog=true:=by decide+kernel
theorem Qk3:Tryz.f6.params.all (Tryz.prog.readableRec ·)=true:=by decide+kernel
theorem Qk4:namedTie Tryz.prog Rows.hangerEditsRow.named Rows.hangerEditsSpec.vars=true:=by decide+kernel
theorem Qk5:(Rows.hangerEditsRow.stops==[])=true:=by decide+kernel
theorem Qk6:(Tryz.prog.stops==[])=true:=by decide+kernel
theorem Qk7:(Rows.hangerEditsRow.knobs==[])=true:=by decide+kernel
theorem Qk8:(Tryz.prog.stopKnobs==[])=true:=by decide+kernel
theorem Qk9:(Rows.hangerEditsRow.inPlace==Tryz.prog.inPlace 6)=true:=by decide+kernel
theorem aS8:(Rows.hangerEditsRow.unfollowed==Tryz.prog.unfollowed 6)=true:=by decide+kernel
theorem aS9:(Rows.hangerEditsRow.recurses==Tryz.prog.recurses 6)=true:=by decide+kernel
theorem aTa:(Rows.hangerEditsRow.named==Tryz.prog.varsNamed 6)=true:=by decide+kernel
theorem aTb:(Rows.hangerEditsRow.maps==(Tryz.f6.params.toList++Rows.hangerEditsSpec.plain.varTypes Tryz.prog).any (Tryz.prog.mapsRec ·))=true:=by decide+kernel
theorem aTc:(Rows.hangerEditsRow.ifaces==(Tryz.f6.params.toList++Rows.hangerEditsSpec.plain.varTypes Tryz.prog).any (Tryz.prog.ifacesRec ·))=true:=by decide+kernel
theorem aTd:(Rows.hangerEditsRow.mapsOut==Tryz.prog.mapsAmong Tryz.f6.resultTypes.toList)=true:=by decide+kernel
theorem aTe:(Rows.hangerEditsRow.loops==(Tryz.f6.params.toList++Rows.hangerEditsSpec.plain.varTypes Tryz.prog).any (Tryz.prog.loopsFrom ·))=true:=by decide+kernel
theorem aTf:(Rows.hangerEditsRow.wideKeys==(Tryz.f6.params.toList++Rows.hangerEditsSpec.plain.varTypes Tryz.prog++Tryz.f6.resultTypes.toList).any (Tryz.prog.wideKeysFrom ·))=true:=by decide+kernel
theorem aTg:Rows.hangerEditsSpec.vars.all (Tryz.prog.varReadable ·)=true:=by decide+kernel
theorem aTh:Tryz.f6.resultTypes.all (fun t=>Tryz.prog.readableRec t&&decide (t<Tryz.prog.types.size))=true:=by decide+kernel
theorem aTi:(Rows.hangerEditsRow.ifacesOut==Tryz.f6.resultTypes.toList.any (Tryz.prog.ifacesRec ·))=true:=by decide+kernel
theorem aTj:(Rows.hangerEditsRow.loopsOut==Tryz.f6.resultTypes.toList.any (Tryz.prog.loopsFrom ·))=true:=by decide+kernel
theorem aTk:(Rows.hangerEditsRow.plainKeys==Tryz.prog.plainKeys)=true:=by decide+kernel
theorem aTl:Rows.hangerEditsRow.shortTexts.isNone=true:=by decide+kernel
theorem aTm:Tryz.prog.stopsHeard=true:=by decide+kernel
theorem aTn:Tryz.prog.mayEnter=true:=by decide+kernel
theorem aTo:(Rows.hangerEditsRow.lifted==Tryz.prog.liftsFinal)=true:=by decide+kernel
theorem aTp:(Tryz.prog.make==some Rows.hangerEditsRow.make)=true:=by decide+kernel
theorem aTq:(Rows.hangerEditsRow.kinds==(if Rows.hangerEditsRow.domain.isEmpty then [] else Tryz.f6.params.toList.map fun t=>match Tryz.prog.underlying t with|some (.int k)=>some k|_=>none))=true:=by decide+kernel
theorem aTr:(Rows.hangerEditsRow.pinned==Rows.hangerEditsRow.pinnedBy)=true:=by decide+kernel
theorem aTs:(Rows.hangerEditsRow.veiled==(Tryz.f6.params.toList++Rows.hangerEditsSpec.plain.varTypes Tryz.prog++Tryz.f6.resultTypes.toList).any (Tryz.prog.veiledRec ·))=true:=by decide+kernel
theorem aTt:Rows.hangerEditsRow.veiledFits Tryz.prog Tryz.f6.params.toList (Tryz.f6.params.toList++Rows.hangerEditsSpec.plain.varTypes Tryz.prog++Tryz.f6.resultTypes.toList)=true:=by decide+kernel
set_option maxRecDepth 100000 in
theorem aJH:joinedFacts Tryz.prog 6 Tryz.f6 Rows.hangerEditsSpec Rows.hangerEditsRow=true:=(qA (qA (qA (qA (qA (qA (qA (qA (qA (qA (qA (qA (qA (qA (qA (qA (qA (qA (qA (qA (qA (qA (qA (qA (qA (qA (qA (qA (qA (qA (qA Qk0 Qk1) Qk2) Qk3) Qk4) Qk5) Qk6) Qk7) Qk8) Qk9) aS8) aS9) aTa) aTb) aTc) aTd) aTe) aTf) aTg) aTh) aTi) aTj) aTk) aTl) aTm) aTn) aTo) aTp) aTq) aTr) aTs) aTt)
set_option maxRecDepth 100000 in
theorem aJI (os:Os) (started:os.Started) (H:Type) (enc:TypeId×Value->H):
 ReturnsInHanded {} Tryz.checked os 6 .any (Rows.hangerEditsSpec.pre6 enc Tryz.prog Tryz.f6 Rows.hangerEditsRow.domain false) (Rows.hangerEditsSpec.post enc Tryz.prog Tryz.f6 false true false false):=by
 refine returnsInHanded_of_change (C:=Tryz.checked) aS7 started (by kernel_rfl) Tryz.func6
  (ChangeSpec.witness6 (enc:=enc) (C:=Tryz.checked) false ⟨#[],#[.agg #[.int .i64 0,.int .i64 0,.slice none 0 0,.int .i64 0,.slice none 0 0,.slice none 0 0,.slice none 0 0,.slice none 0 0,.slice none 0 0,.slice none 0 0,.slice none 0 0,.slice none 0 0],.agg #[.int .i64 0,.int .i64 0,.int .i64 0],.int .i64 0],[]⟩ 16 (by kernel_rfl) (by kernel_rfl) (by kernel_rfl) (by kernel_rfl)) ?_
 intro W base args ds gs before hval0 hW hcnd _;have hval: ∀(j:Nat) t v,Tryz.f6.params[j]? =some t->args[j]? =some v->Value.okWide Tryz.prog W .any base t v:=hval0;have hW':=hW;obtain ⟨p,q,hA0,hV,rfl,hfz,hnd⟩:=hW;have hA:DataW.TrodAll enc Tryz.prog W 0 (fun _=>true) true Tryz.f6.params.toList args.toList ds p:=hA0
 rw [Tryz.params6] at hA hval;obtain ⟨v0,vs0,d0,ds0,p0,q0,hargs,rfl,rfl,h0,r0⟩:=trodAll_cons hA;obtain ⟨v1,vs1,d1,ds1,p1,q1,rfl,rfl,rfl,h1,r1⟩:=trodAll_cons r0;obtain ⟨v2,vs2,d2,ds2,p2,q2,rfl,rfl,rfl,h2,r2⟩:=trodAll_cons r1;obtain ⟨rfl,rfl,rfl⟩:=trodAll_nil r2;obtain rfl:args= #[v0,v1,v2]:=by cases args;simp_all
 obtain ⟨rfl,rfl⟩:=trodVars_none hV;obtain ⟨_,g0,⟨a0,rfl,w0⟩,e0,k0⟩:=cM.argS aPq Tryz.underlying41 (hval 0 41 v0 rfl rfl) h0;obtain rfl:g0=(pvL (dX.enc a0)).getD []:=by rw [e0];rfl
 obtain ⟨_,g1,⟨a1,rfl,w1⟩,e1,k1⟩:=cM.argS aDD Tryz.underlying67 (hval 1 67 v1 rfl rfl) h1;obtain rfl:g1=(pvL (RT.sv [.i .i64,.i .i64,.i .i64] a1)).getD []:=by rw [e1];rfl
 obtain ⟨a2,w2,k2⟩:=cM.argI Tryz.underlying3 (hval 2 3 v2 rfl rfl) h2;obtain ⟨n,s,z,hrun⟩:=aM.runA aRk aJ6 (a:=(a0,a1,a2)) (CB a0 a1 a2 (aDp.of w0.clock.now w0.clock.agenda.heap)) (ps:=[.agg ((pvL (dX.enc a0)).getD []),.agg ((pvL (RT.sv [.i .i64,.i .i64,.i .i64] a1)).getD []),.int .i64 a2]) rfl rfl
 refine (aAI (P:=Tryz.prog) (prims:=fun _=>true) (TT.tabOK ZF) (TT.primsOK ZF) nT hrun (us:=[v0,v1,v2]) (w:=W) (.cons _ _ _ _ k0 (.cons _ _ _ _ k1 (.cons _ _ _ _ k2 (.nil))))).mono fun e W' ⟨he,hb⟩=>?_
 subst he;exact ⟨_,rfl,aBR (P:=Tryz.prog) (bt:=4) Qk1 rfl rfl (by kernel_rfl) (by
  rw [Tryz.params6];intro t ht;simp only [List.mem_cons,List.not_mem_nil,or_false] at ht;rcases ht with rfl|rfl|rfl
  · exact aRw
  · exact aRx
  · exact aS6) hW' rfl hb⟩
theorem hangerEdits_holds:Rows.HangerEditsSaid:=
 OpenClaim.holds_of_wide 6 Tryz.f6 rfl rfl rfl rfl rfl rfl rfl ⟨rfl,rfl,rfl,rfl,rfl⟩ rfl rfl rfl rfl rfl (by kernel_rfl) Tryz.func6 aJH
  (of_decide_eq_true (by kernel_rfl)) (by unfold Func.isWrapper;first|(rw [if_pos (by decide+kernel)];kernel_rfl)|(rw [if_neg (by decide+kernel)];exact ⟨rfl,rfl⟩))
  (fun os started H enc _=>aJI os started H enc)
end Go.Proofs.YtbncnimfgdelaaaGreat
