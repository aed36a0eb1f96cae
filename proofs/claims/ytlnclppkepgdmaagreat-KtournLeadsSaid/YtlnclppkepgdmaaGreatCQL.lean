/- The law KtournLeads returns true: its plain function gives true whatever comes in. -/
import Derived.Test.YtlnclppkepgdmaaGreatRows
import Derived.Test.YtlnclppkepgdmaaGreatCQS2
import Derived.Test.YtlnclppkepgdmaaGreatCQM5
import Derived.Test.YtlnclppkepgdmaaGreatCVm3
open List renaming append_nil->aa
namespace Go.Proofs.YtlnclppkepgdmaaGreat
open Go.ChangeShapes Go.WideShapes Go.ChangeAt Go.RowKit Go.Vm
theorem aCL:cY Tryz.prog 2 (jE [.i .i64]):=cY.int Tryz.underlying2
theorem aBy:cY Tryz.prog 23 (jE [.i .i64,.i .i64]):=(cY.struct (Ks:=[(jE [.i .i64]),(jE [.i .i64])]) Tryz.underlying23 (bJ.cons (by kernel_rfl) aCL (bJ.cons (by kernel_rfl) aCL (bJ.nil))) (by kernel_rfl)).mono (fun vs h=>qW (rs:=[[.i .i64],[.i .i64]]) h)
theorem HO:cY Tryz.prog 3 (jE [.i .i64]):=cY.int Tryz.underlying3
theorem aTE:cY Tryz.prog 78 (jE [.i .i64,.i .i64,.i .i64]):=(cY.struct (Ks:=[(jE [.i .i64]),(jE [.i .i64]),(jE [.i .i64])]) Tryz.underlying78 (bJ.cons (by kernel_rfl) HO (bJ.cons (by kernel_rfl) aCL (bJ.cons (by kernel_rfl) aCL (bJ.nil)))) (by kernel_rfl)).mono (fun vs h=>qW (rs:=[[.i .i64],[.i .i64],[.i .i64]]) h)
theorem aTF:cY Tryz.prog 24 (XW [.i .i64,.i .i64,.i .i64]):=cY.slice (r:=[.i .i64,.i .i64,.i .i64]) Tryz.underlying24 aTE (by kernel_rfl) (by decide)
structure Field.WF (c:Field):Prop where
 points: ∀a∈c.points,RT.wf [.i .i64,.i .i64,.i .i64] a
def aCM:List SV->Prop:=fun vs=> ∃c:Field,vs=dH.enc c/\c.WF
theorem aTG:cY Tryz.prog 26 aCM:=(cY.struct (Ks:=[(XW [.i .i64,.i .i64,.i .i64])]) Tryz.underlying26 (bJ.cons (by kernel_rfl) aTF (bJ.nil)) (by kernel_rfl)).mono (by
 rintro vs ⟨_,b0,rfl,⟨c0,rfl,w0⟩,rfl⟩;refine ⟨⟨c0⟩,?_,⟨w0⟩⟩;simp only [aa]
 rfl)
theorem aTH:cY Tryz.prog 88 (jE [.i .i64,.i .i64]):=(cY.struct (Ks:=[(jE [.i .i64]),(jE [.i .i64])]) Tryz.underlying88 (bJ.cons (by kernel_rfl) HO (bJ.cons (by kernel_rfl) HO (bJ.nil))) (by kernel_rfl)).mono (fun vs h=>qW (rs:=[[.i .i64],[.i .i64]]) h)
theorem aNo:cY Tryz.prog 197 (jE [.i .i64,.i .i64,.i .i64]):=(cY.struct (Ks:=[(jE [.i .i64]),(jE [.i .i64,.i .i64])]) Tryz.underlying197 (bJ.cons (by kernel_rfl) HO (bJ.cons (by kernel_rfl) aTH (bJ.nil))) (by kernel_rfl)).mono (fun vs h=>qW (rs:=[[.i .i64],[.i .i64,.i .i64]]) h)
theorem aTI:cY Tryz.prog 27 (XW [.i .i64,.i .i64,.i .i64]):=cY.slice (r:=[.i .i64,.i .i64,.i .i64]) Tryz.underlying27 aNo (by kernel_rfl) (by decide)
structure bK.WF (c:bK):Prop where
 next_:RT.wf [.i .i64] c.next_
 list: ∀a∈c.list,RT.wf [.i .i64,.i .i64,.i .i64] a
def aCN:List SV->Prop:=fun vs=> ∃c:bK,vs=rS.enc c/\c.WF
theorem aTJ:cY Tryz.prog 29 aCN:=(cY.struct (Ks:=[(jE [.i .i64]),(XW [.i .i64,.i .i64,.i .i64])]) Tryz.underlying29 (bJ.cons (by kernel_rfl) HO (bJ.cons (by kernel_rfl) aTI (bJ.nil))) (by kernel_rfl)).mono (by
 rintro vs ⟨_,b0,rfl,⟨c0,rfl,w0⟩,_,b1,rfl,⟨c1,rfl,w1⟩,rfl⟩;refine ⟨⟨c0,c1⟩,?_,⟨w0,w1⟩⟩;simp only [aa]
 rfl)
theorem RI:cY Tryz.prog 30 (XW [.i .i64]):=cY.slice (r:=[.i .i64]) Tryz.underlying30 HO (by kernel_rfl) (by decide)
theorem aWa:cY Tryz.prog 4 (jE [.b]):=cY.bool Tryz.underlying4
theorem aTK:cY Tryz.prog 31 (XW [.b]):=cY.slice (r:=[.b]) Tryz.underlying31 aWa (by kernel_rfl) (by decide)
structure aU.WF (c:aU):Prop where
 uses: ∀a∈c.uses,RT.wf [.i .i64] a
 used: ∀a∈c.used,RT.wf [.b] a
 free: ∀a∈c.free,RT.wf [.i .i64] a
def aCO:List SV->Prop:=fun vs=> ∃c:aU,vs=pZ.enc c/\c.WF
theorem aTL:cY Tryz.prog 33 aCO:=(cY.struct (Ks:=[(XW [.i .i64]),(XW [.b]),(XW [.i .i64])]) Tryz.underlying33 (bJ.cons (by kernel_rfl) RI (bJ.cons (by kernel_rfl) aTK (bJ.cons (by kernel_rfl) RI (bJ.nil)))) (by kernel_rfl)).mono (by
 rintro vs ⟨_,b0,rfl,⟨c0,rfl,w0⟩,_,b1,rfl,⟨c1,rfl,w1⟩,_,b2,rfl,⟨c2,rfl,w2⟩,rfl⟩;refine ⟨⟨c0,c1,c2⟩,?_,⟨w0,w1,w2⟩⟩;simp only [aa]
 rfl)
theorem aCP:cY Tryz.prog 106 (jE [.i .i64,.i .i64]):=(cY.struct (Ks:=[(jE [.i .i64]),(jE [.i .i64])]) Tryz.underlying106 (bJ.cons (by kernel_rfl) HO (bJ.cons (by kernel_rfl) HO (bJ.nil))) (by kernel_rfl)).mono (fun vs h=>qW (rs:=[[.i .i64],[.i .i64]]) h)
theorem aNp:cY Tryz.prog 108 (jE [.i .i64,.i .i64,.i .i64,.i .i64,.i .i64]):=(cY.struct (Ks:=[(jE [.i .i64,.i .i64]),(jE [.i .i64]),(jE [.i .i64,.i .i64])]) Tryz.underlying108 (bJ.cons (by kernel_rfl) aBy (bJ.cons (by kernel_rfl) HO (bJ.cons (by kernel_rfl) aCP (bJ.nil)))) (by kernel_rfl)).mono (fun vs h=>qW (rs:=[[.i .i64,.i .i64],[.i .i64],[.i .i64,.i .i64]]) h)
theorem aTM:cY Tryz.prog 34 (XW [.i .i64,.i .i64,.i .i64,.i .i64,.i .i64]):=cY.slice (r:=[.i .i64,.i .i64,.i .i64,.i .i64,.i .i64]) Tryz.underlying34 aNp (by kernel_rfl) (by decide)
structure aP.WF (c:aP):Prop where
 slots:aU.WF c.slots
 heap: ∀a∈c.heap,RT.wf [.i .i64,.i .i64,.i .i64,.i .i64,.i .i64] a
 where_: ∀a∈c.where_,RT.wf [.i .i64] a
def Z8:List SV->Prop:=fun vs=> ∃c:aP,vs=hJ.enc c/\c.WF
theorem aTN:cY Tryz.prog 36 Z8:=(cY.struct (Ks:=[aCO,(XW [.i .i64,.i .i64,.i .i64,.i .i64,.i .i64]),(XW [.i .i64])]) Tryz.underlying36 (bJ.cons (by kernel_rfl) aTL (bJ.cons (by kernel_rfl) aTM (bJ.cons (by kernel_rfl) RI (bJ.nil)))) (by kernel_rfl)).mono (by
 rintro vs ⟨_,b0,rfl,⟨c0,rfl,w0⟩,_,b1,rfl,⟨c1,rfl,w1⟩,_,b2,rfl,⟨c2,rfl,w2⟩,rfl⟩;refine ⟨⟨c0,c1,c2⟩,?_,⟨w0,w1,w2⟩⟩;simp only [aa]
 rfl)
theorem aNq:cY Tryz.prog 141 (jE [.i .i64,.i .i64,.i .i64]):=(cY.struct (Ks:=[(jE [.i .i64]),(jE [.i .i64,.i .i64])]) Tryz.underlying141 (bJ.cons (by kernel_rfl) HO (bJ.cons (by kernel_rfl) aCP (bJ.nil))) (by kernel_rfl)).mono (fun vs h=>qW (rs:=[[.i .i64],[.i .i64,.i .i64]]) h)
theorem aTO:cY Tryz.prog 37 (XW [.i .i64,.i .i64,.i .i64]):=cY.slice (r:=[.i .i64,.i .i64,.i .i64]) Tryz.underlying37 aNq (by kernel_rfl) (by decide)
structure aO.WF (c:aO):Prop where
 now:RT.wf [.i .i64,.i .i64] c.now
 field:Field.WF c.field
 certs:bK.WF c.certs
 agenda:aP.WF c.agenda
 due: ∀a∈c.due,RT.wf [.i .i64,.i .i64,.i .i64] a
def aCQ:List SV->Prop:=fun vs=> ∃c:aO,vs=dI.enc c/\c.WF
theorem aTP:cY Tryz.prog 39 aCQ:=(cY.struct (Ks:=[(jE [.i .i64,.i .i64]),aCM,aCN,Z8,(XW [.i .i64,.i .i64,.i .i64])]) Tryz.underlying39 (bJ.cons (by kernel_rfl) aBy (bJ.cons (by kernel_rfl) aTG (bJ.cons (by kernel_rfl) aTJ (bJ.cons (by kernel_rfl) aTN (bJ.cons (by kernel_rfl) aTO (bJ.nil)))))) (by kernel_rfl)).mono (by
 rintro vs ⟨_,b0,rfl,⟨c0,rfl,w0⟩,_,b1,rfl,⟨c1,rfl,w1⟩,_,b2,rfl,⟨c2,rfl,w2⟩,_,b3,rfl,⟨c3,rfl,w3⟩,_,b4,rfl,⟨c4,rfl,w4⟩,rfl⟩;refine ⟨⟨c0,c1,c2,c3,c4⟩,?_,⟨w0,w1,w2,w3,w4⟩⟩;simp only [aa]
 rfl)
structure bG.WF (c:bG):Prop where
 places: ∀a∈c.places,RT.wf [.i .i64] a
 wins: ∀a∈c.wins,RT.wf [.i .i64] a
def TZ:List SV->Prop:=fun vs=> ∃c:bG,vs=hO.enc c/\c.WF
theorem aTQ:cY Tryz.prog 41 TZ:=(cY.struct (Ks:=[(XW [.i .i64]),(XW [.i .i64])]) Tryz.underlying41 (bJ.cons (by kernel_rfl) RI (bJ.cons (by kernel_rfl) RI (bJ.nil))) (by kernel_rfl)).mono (by
 rintro vs ⟨_,b0,rfl,⟨c0,rfl,w0⟩,_,b1,rfl,⟨c1,rfl,w1⟩,rfl⟩;refine ⟨⟨c0,c1⟩,?_,⟨w0,w1⟩⟩;simp only [aa]
 rfl)
structure bO.WF (c:bO):Prop where
 clock:aO.WF c.clock
 bracket:bG.WF c.bracket
def aGn:List SV->Prop:=fun vs=> ∃c:bO,vs=kQ.enc c/\c.WF
theorem aTR:cY Tryz.prog 43 aGn:=(cY.struct (Ks:=[aCQ,TZ]) Tryz.underlying43 (bJ.cons (by kernel_rfl) aTP (bJ.cons (by kernel_rfl) aTQ (bJ.nil))) (by kernel_rfl)).mono (by
 rintro vs ⟨_,b0,rfl,⟨c0,rfl,w0⟩,_,b1,rfl,⟨c1,rfl,w1⟩,rfl⟩;refine ⟨⟨c0,c1⟩,?_,⟨w0,w1⟩⟩;simp only [aa]
 rfl)
theorem aWb:Tryz.prog.readableRec 43=true/\43<Tryz.prog.types.size:=⟨by kernel_rfl,of_decide_eq_true (by kernel_rfl)⟩
theorem aWc:Tryz.prog.readableRec 23=true/\23<Tryz.prog.types.size:=⟨by kernel_rfl,of_decide_eq_true (by kernel_rfl)⟩
theorem aXY:ownKnob Tryz.prog.godebug=none:=by kernel_rfl
theorem qO {a b:Bool} (h:a=true) (k:b=true):(a&&b)=true:=by rw [h,k];rfl
theorem Qk0:Rows.ktournLeadsRow.wf (OpenSpec.ofChange Rows.ktournLeadsSpec)=true:=by decide+kernel
theorem Qk1:laidOutB Tryz.prog=true:=by decide+kernel
theorem Qk2:mapsRowed Tryz.prog=true:=by decide+kernel
theorem Qk3:Tryz.f7.params.all (Tryz.prog.readableRec ·)=true:=by decide+kernel
theorem Qk4:namedTie Tryz.prog Rows.ktournLeadsRow.named Rows.ktournLeadsSpec.vars=true:=by decide+kernel
theorem Qk5:(Rows.ktournLeadsRow.stops==[])=true:=by decide+kernel
theorem Qk6:(Tryz.prog.stops==[])=true:=by decide+kernel
theorem Qk7:(Rows.ktournLeadsRow.knobs==[])=true:=by decide+kernel
theorem Qk8:(Tryz.prog.stopKnobs==[])=true:=by decide+kernel
theorem Qk9:(Rows.ktournLeadsRow.inPlace==Tryz.prog.inPlace 7)=true:=by decide+kernel
theorem aXZ:(Rows.ktournLeadsRow.unfollowed==Tryz.prog.unfollowed 7)=true:=by decide+kernel
theorem aX0:(Rows.ktournLeadsRow.recurses==Tryz.prog.recurses 7)=true:=by decide+kernel
theorem aX1:(Rows.ktournLeadsRow.named==Tryz.prog.varsNamed 7)=true:=by decide+kernel
theorem aX2:(Rows.ktournLeadsRow.maps==(Tryz.f7.params.toList++Rows.ktournLeadsSpec.plain.varTypes Tryz.prog).any (Tryz.prog.mapsRec ·))=true:=by decide+kernel
theorem aX3:(Rows.ktournLeadsRow.ifaces==(Tryz.f7.params.toList++Rows.ktournLeadsSpec.plain.varTypes Tryz.prog).any (Tryz.prog.ifacesRec ·))=true:=by decide+kernel
theorem aX4:(Rows.ktournLeadsRow.mapsOut==Tryz.prog.mapsAmong Tryz.f7.resultTypes.toList)=true:=by decide+kernel
theorem aX5:(Rows.ktournLeadsRow.loops==(Tryz.f7.params.toList++Rows.ktournLeadsSpec.plain.varTypes Tryz.prog).any (Tryz.prog.loopsFrom ·))=true:=by decide+kernel
theorem aX6:(Rows.ktournLeadsRow.wideKeys==(Tryz.f7.params.toList++Rows.ktournLeadsSpec.plain.varTypes Tryz.prog++Tryz.f7.resultTypes.toList).any (Tryz.prog.wideKeysFrom ·))=true:=by decide+kernel
theorem aX7:Rows.ktournLeadsSpec.vars.all (Tryz.prog.varReadable ·)=true:=by decide+kernel
theorem aX8:Tryz.f7.resultTypes.all (fun t=>Tryz.prog.readableRec t&&decide (t<Tryz.prog.types.size))=true:=by decide+kernel
theorem aX9:(Rows.ktournLeadsRow.ifacesOut==Tryz.f7.resultTypes.toList.any (Tryz.prog.ifacesRec ·))=true:=by decide+kernel
theorem aYa:(Rows.ktournLeadsRow.loopsOut==Tryz.f7.resultTypes.toList.any (Tryz.prog.loopsFrom ·))=true:=by decide+kernel
theorem aYb:(Rows.ktournLeadsRow.plainKeys==Tryz.prog.plainKeys)=true:=by decide+kernel
theorem aYc:Rows.ktournLeadsRow.shortTexts.isNone=true:=by decide+kernel
theorem aYd:Tryz.prog.stopsHeard=true:=by decide+kernel
theorem aYe:Tryz.prog.mayEnter=true:=by decide+kernel
theorem aYf:(Rows.ktournLeadsRow.lifted==Tryz.prog.liftsFinal)=true:=by decide+kernel
theorem aYg:(Tryz.prog.make==some Rows.ktournLeadsRow.make)=true:=by decide+kernel
theorem aYh:(Rows.ktournLeadsRow.kinds==(if Rows.ktournLeadsRow.domain.isEmpty then [] else Tryz.f7.params.toList.map fun t=>match Tryz.prog.underlying t with|some (.int k)=>some k|_=>none))=true:=by decide+kernel
theorem aYi:(Rows.ktournLeadsRow.pinned==Rows.ktournLeadsRow.pinnedBy)=true:=by decide+kernel
theorem aYj:(Rows.ktournLeadsRow.veiled==(Tryz.f7.params.toList++Rows.ktournLeadsSpec.plain.varTypes Tryz.prog++Tryz.f7.resultTypes.toList).any (Tryz.prog.veiledRec ·))=true:=by decide+kernel
theorem aYk:Rows.ktournLeadsRow.veiledFits Tryz.prog Tryz.f7.params.toList (Tryz.f7.params.toList++Rows.ktournLeadsSpec.plain.varTypes Tryz.prog++Tryz.f7.resultTypes.toList)=true:=by decide+kernel
set_option maxRecDepth 100000 in
theorem aNr:joinedFacts Tryz.prog 7 Tryz.f7 Rows.ktournLeadsSpec Rows.ktournLeadsRow=true:=(qO (qO (qO (qO (qO (qO (qO (qO (qO (qO (qO (qO (qO (qO (qO (qO (qO (qO (qO (qO (qO (qO (qO (qO (qO (qO (qO (qO (qO (qO (qO Qk0 Qk1) Qk2) Qk3) Qk4) Qk5) Qk6) Qk7) Qk8) Qk9) aXZ) aX0) aX1) aX2) aX3) aX4) aX5) aX6) aX7) aX8) aX9) aYa) aYb) aYc) aYd) aYe) aYf) aYg) aYh) aYi) aYj) aYk)
set_option maxRecDepth 100000 in
theorem aNs (os:Os) (started:os.Started) (H:Type) (enc:TypeId×Value->H):
 ReturnsInHanded {} Tryz.checked os 7 .any (Rows.ktournLeadsSpec.pre6 enc Tryz.prog Tryz.f7 Rows.ktournLeadsRow.domain false) (Rows.ktournLeadsSpec.post enc Tryz.prog Tryz.f7 false true false false):=by
 refine returnsInHanded_of_change (C:=Tryz.checked) aXY started (by kernel_rfl) Tryz.func7
  (ChangeSpec.witness6 (enc:=enc) (C:=Tryz.checked) false ⟨#[],#[.agg #[.int .i64 0,.int .i64 0,.slice none 0 0,.int .i64 0,.slice none 0 0,.slice none 0 0,.slice none 0 0,.slice none 0 0,.slice none 0 0,.slice none 0 0,.slice none 0 0,.slice none 0 0,.slice none 0 0],.agg #[.int .i64 0,.int .i64 0]],[]⟩ 16 (by kernel_rfl) (by kernel_rfl) (by kernel_rfl) (by kernel_rfl)) ?_
 intro W base args ds gs before hval0 hW hcnd _;have hval: ∀(j:Nat) t v,Tryz.f7.params[j]? =some t->args[j]? =some v->Value.okWide Tryz.prog W .any base t v:=hval0;have hW':=hW;obtain ⟨p,q,hA0,hV,rfl,hfz,hnd⟩:=hW;have hA:DataW.TrodAll enc Tryz.prog W 0 (fun _=>true) true Tryz.f7.params.toList args.toList ds p:=hA0
 rw [Tryz.params7] at hA hval;obtain ⟨v0,vs0,d0,ds0,p0,q0,hargs,rfl,rfl,h0,r0⟩:=trodAll_cons hA;obtain ⟨v1,vs1,d1,ds1,p1,q1,rfl,rfl,rfl,h1,r1⟩:=trodAll_cons r0;obtain ⟨rfl,rfl,rfl⟩:=trodAll_nil r1;obtain rfl:args= #[v0,v1]:=by cases args;simp_all
 obtain ⟨rfl,rfl⟩:=trodVars_none hV;obtain ⟨_,g0,⟨a0,rfl,w0⟩,e0,k0⟩:=cY.argS aTR Tryz.underlying43 (hval 0 43 v0 rfl rfl) h0;obtain rfl:g0=(pvL (kQ.enc a0)).getD []:=by rw [e0];rfl
 obtain ⟨_,g1,⟨a1,rfl,w1⟩,e1,k1⟩:=cY.argS aBy Tryz.underlying23 (hval 1 23 v1 rfl rfl) h1;obtain rfl:g1=(pvL (RT.sv [.i .i64,.i .i64] a1)).getD []:=by rw [e1];rfl
 obtain ⟨n,s,z,hrun⟩:=aJ.runA aV1 aNP (a:=(a0,a1)) (D0 a0 a1 (aBi.of w0.clock.now w0.clock.agenda.heap) ⟨LQ w1.1,LQ w1.2⟩) (ps:=[.agg ((pvL (kQ.enc a0)).getD []),.agg ((pvL (RT.sv [.i .i64,.i .i64] a1)).getD [])]) rfl rfl
 refine (aDb (P:=Tryz.prog) (prims:=fun _=>true) (TT.tabOK aB3) (TT.primsOK aB3) oH hrun (us:=[v0,v1]) (w:=W) (.cons _ _ _ _ k0 (.cons _ _ _ _ k1 (.nil)))).mono fun e W' ⟨he,hb⟩=>?_
 subst he;exact ⟨_,rfl,aEn (P:=Tryz.prog) (bt:=4) Qk1 rfl rfl (by kernel_rfl) (by
  rw [Tryz.params7];intro t ht;simp only [List.mem_cons,List.not_mem_nil,or_false] at ht;rcases ht with rfl|rfl
  · exact aWb
  exact aWc) hW' rfl hb⟩
theorem ktournLeads_holds:Rows.KtournLeadsSaid:=
 OpenClaim.holds_of_wide 7 Tryz.f7 rfl rfl rfl rfl rfl rfl rfl ⟨rfl,rfl,rfl,rfl,rfl⟩ rfl rfl rfl rfl rfl (by kernel_rfl) Tryz.func7 aNr
  (of_decide_eq_true (by kernel_rfl)) (by unfold Func.isWrapper;first|(rw [if_pos (by decide+kernel)];kernel_rfl)|(rw [if_neg (by decide+kernel)];exact ⟨rfl,rfl⟩))
  (fun os started H enc _=>aNs os started H enc)
end Go.Proofs.YtlnclppkepgdmaaGreat
