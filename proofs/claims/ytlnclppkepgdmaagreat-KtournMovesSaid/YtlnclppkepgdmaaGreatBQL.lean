/- The law KtournMoves returns true: its plain function gives true whatever comes in. -/
import Derived.Test.YtlnclppkepgdmaaGreatRows
import Derived.Test.YtlnclppkepgdmaaGreatBQS2
import Derived.Test.YtlnclppkepgdmaaGreatBQM5
import Derived.Test.YtlnclppkepgdmaaGreatBVm3
namespace Go.Proofs.YtlnclppkepgdmaaGreat
open Go.ChangeShapes Go.WideShapes Go.ChangeAt Go.RowKit Go.Vm
theorem aB9:cU Tryz.prog 2 (iR [.i .i64]):=cU.int Tryz.underlying2
theorem aAP:cU Tryz.prog 23 (iR [.i .i64,.i .i64]):=(cU.struct (Ks:=[(iR [.i .i64]),(iR [.i .i64])]) Tryz.underlying23 (bD.cons (by kernel_rfl) aB9 (bD.cons (by kernel_rfl) aB9 (bD.nil))) (by kernel_rfl)).mono (fun vs h=>qJ (rs:=[[.i .i64],[.i .i64]]) h)
theorem GO:cU Tryz.prog 3 (iR [.i .i64]):=cU.int Tryz.underlying3
theorem aTo:cU Tryz.prog 78 (iR [.i .i64,.i .i64,.i .i64]):=(cU.struct (Ks:=[(iR [.i .i64]),(iR [.i .i64]),(iR [.i .i64])]) Tryz.underlying78 (bD.cons (by kernel_rfl) GO (bD.cons (by kernel_rfl) aB9 (bD.cons (by kernel_rfl) aB9 (bD.nil)))) (by kernel_rfl)).mono (fun vs h=>qJ (rs:=[[.i .i64],[.i .i64],[.i .i64]]) h)
theorem aTp:cU Tryz.prog 24 (WN [.i .i64,.i .i64,.i .i64]):=cU.slice (r:=[.i .i64,.i .i64,.i .i64]) Tryz.underlying24 aTo (by kernel_rfl) (by decide)
structure Field.WF (c:Field):Prop where
 points: ∀a∈c.points,RT.wf [.i .i64,.i .i64,.i .i64] a
def aCa:List SV->Prop:=fun vs=> ∃c:Field,vs=cM.enc c/\c.WF
theorem aTq:cU Tryz.prog 26 aCa:=(cU.struct (Ks:=[(WN [.i .i64,.i .i64,.i .i64])]) Tryz.underlying26 (bD.cons (by kernel_rfl) aTp (bD.nil)) (by kernel_rfl)).mono (by
 rintro vs ⟨_,b0,rfl,⟨c0,rfl,w0⟩,rfl⟩;refine ⟨⟨c0⟩,?_,⟨w0⟩⟩;simp only [List.append_nil]
 rfl)
theorem aTr:cU Tryz.prog 88 (iR [.i .i64,.i .i64]):=(cU.struct (Ks:=[(iR [.i .i64]),(iR [.i .i64])]) Tryz.underlying88 (bD.cons (by kernel_rfl) GO (bD.cons (by kernel_rfl) GO (bD.nil))) (by kernel_rfl)).mono (fun vs h=>qJ (rs:=[[.i .i64],[.i .i64]]) h)
theorem aMY:cU Tryz.prog 197 (iR [.i .i64,.i .i64,.i .i64]):=(cU.struct (Ks:=[(iR [.i .i64]),(iR [.i .i64,.i .i64])]) Tryz.underlying197 (bD.cons (by kernel_rfl) GO (bD.cons (by kernel_rfl) aTr (bD.nil))) (by kernel_rfl)).mono (fun vs h=>qJ (rs:=[[.i .i64],[.i .i64,.i .i64]]) h)
theorem aTs:cU Tryz.prog 27 (WN [.i .i64,.i .i64,.i .i64]):=cU.slice (r:=[.i .i64,.i .i64,.i .i64]) Tryz.underlying27 aMY (by kernel_rfl) (by decide)
structure bI.WF (c:bI):Prop where
 next_:RT.wf [.i .i64] c.next_
 list: ∀a∈c.list,RT.wf [.i .i64,.i .i64,.i .i64] a
def aCb:List SV->Prop:=fun vs=> ∃c:bI,vs=gR.enc c/\c.WF
theorem aTt:cU Tryz.prog 29 aCb:=(cU.struct (Ks:=[(iR [.i .i64]),(WN [.i .i64,.i .i64,.i .i64])]) Tryz.underlying29 (bD.cons (by kernel_rfl) GO (bD.cons (by kernel_rfl) aTs (bD.nil))) (by kernel_rfl)).mono (by
 rintro vs ⟨_,b0,rfl,⟨c0,rfl,w0⟩,_,b1,rfl,⟨c1,rfl,w1⟩,rfl⟩;refine ⟨⟨c0,c1⟩,?_,⟨w0,w1⟩⟩;simp only [List.append_nil]
 rfl)
theorem QI:cU Tryz.prog 30 (WN [.i .i64]):=cU.slice (r:=[.i .i64]) Tryz.underlying30 GO (by kernel_rfl) (by decide)
theorem aVY:cU Tryz.prog 4 (iR [.b]):=cU.bool Tryz.underlying4
theorem aTu:cU Tryz.prog 31 (WN [.b]):=cU.slice (r:=[.b]) Tryz.underlying31 aVY (by kernel_rfl) (by decide)
structure aZ.WF (c:aZ):Prop where
 uses: ∀a∈c.uses,RT.wf [.i .i64] a
 used: ∀a∈c.used,RT.wf [.b] a
 free: ∀a∈c.free,RT.wf [.i .i64] a
def aCc:List SV->Prop:=fun vs=> ∃c:aZ,vs=gQ.enc c/\c.WF
theorem aTv:cU Tryz.prog 33 aCc:=(cU.struct (Ks:=[(WN [.i .i64]),(WN [.b]),(WN [.i .i64])]) Tryz.underlying33 (bD.cons (by kernel_rfl) QI (bD.cons (by kernel_rfl) aTu (bD.cons (by kernel_rfl) QI (bD.nil)))) (by kernel_rfl)).mono (by
 rintro vs ⟨_,b0,rfl,⟨c0,rfl,w0⟩,_,b1,rfl,⟨c1,rfl,w1⟩,_,b2,rfl,⟨c2,rfl,w2⟩,rfl⟩;refine ⟨⟨c0,c1,c2⟩,?_,⟨w0,w1,w2⟩⟩;simp only [List.append_nil]
 rfl)
theorem aCd:cU Tryz.prog 106 (iR [.i .i64,.i .i64]):=(cU.struct (Ks:=[(iR [.i .i64]),(iR [.i .i64])]) Tryz.underlying106 (bD.cons (by kernel_rfl) GO (bD.cons (by kernel_rfl) GO (bD.nil))) (by kernel_rfl)).mono (fun vs h=>qJ (rs:=[[.i .i64],[.i .i64]]) h)
theorem aMZ:cU Tryz.prog 108 (iR [.i .i64,.i .i64,.i .i64,.i .i64,.i .i64]):=(cU.struct (Ks:=[(iR [.i .i64,.i .i64]),(iR [.i .i64]),(iR [.i .i64,.i .i64])]) Tryz.underlying108 (bD.cons (by kernel_rfl) aAP (bD.cons (by kernel_rfl) GO (bD.cons (by kernel_rfl) aCd (bD.nil)))) (by kernel_rfl)).mono (fun vs h=>qJ (rs:=[[.i .i64,.i .i64],[.i .i64],[.i .i64,.i .i64]]) h)
theorem aTw:cU Tryz.prog 34 (WN [.i .i64,.i .i64,.i .i64,.i .i64,.i .i64]):=cU.slice (r:=[.i .i64,.i .i64,.i .i64,.i .i64,.i .i64]) Tryz.underlying34 aMZ (by kernel_rfl) (by decide)
structure aP.WF (c:aP):Prop where
 slots:aZ.WF c.slots
 heap: ∀a∈c.heap,RT.wf [.i .i64,.i .i64,.i .i64,.i .i64,.i .i64] a
 where_: ∀a∈c.where_,RT.wf [.i .i64] a
def Y0:List SV->Prop:=fun vs=> ∃c:aP,vs=dF.enc c/\c.WF
theorem aTx:cU Tryz.prog 36 Y0:=(cU.struct (Ks:=[aCc,(WN [.i .i64,.i .i64,.i .i64,.i .i64,.i .i64]),(WN [.i .i64])]) Tryz.underlying36 (bD.cons (by kernel_rfl) aTv (bD.cons (by kernel_rfl) aTw (bD.cons (by kernel_rfl) QI (bD.nil)))) (by kernel_rfl)).mono (by
 rintro vs ⟨_,b0,rfl,⟨c0,rfl,w0⟩,_,b1,rfl,⟨c1,rfl,w1⟩,_,b2,rfl,⟨c2,rfl,w2⟩,rfl⟩;refine ⟨⟨c0,c1,c2⟩,?_,⟨w0,w1,w2⟩⟩;simp only [List.append_nil]
 rfl)
theorem aM0:cU Tryz.prog 141 (iR [.i .i64,.i .i64,.i .i64]):=(cU.struct (Ks:=[(iR [.i .i64]),(iR [.i .i64,.i .i64])]) Tryz.underlying141 (bD.cons (by kernel_rfl) GO (bD.cons (by kernel_rfl) aCd (bD.nil))) (by kernel_rfl)).mono (fun vs h=>qJ (rs:=[[.i .i64],[.i .i64,.i .i64]]) h)
theorem aTy:cU Tryz.prog 37 (WN [.i .i64,.i .i64,.i .i64]):=cU.slice (r:=[.i .i64,.i .i64,.i .i64]) Tryz.underlying37 aM0 (by kernel_rfl) (by decide)
structure aO.WF (c:aO):Prop where
 now:RT.wf [.i .i64,.i .i64] c.now
 field:Field.WF c.field
 certs:bI.WF c.certs
 agenda:aP.WF c.agenda
 due: ∀a∈c.due,RT.wf [.i .i64,.i .i64,.i .i64] a
def aCe:List SV->Prop:=fun vs=> ∃c:aO,vs=bJ.enc c/\c.WF
theorem aTz:cU Tryz.prog 39 aCe:=(cU.struct (Ks:=[(iR [.i .i64,.i .i64]),aCa,aCb,Y0,(WN [.i .i64,.i .i64,.i .i64])]) Tryz.underlying39 (bD.cons (by kernel_rfl) aAP (bD.cons (by kernel_rfl) aTq (bD.cons (by kernel_rfl) aTt (bD.cons (by kernel_rfl) aTx (bD.cons (by kernel_rfl) aTy (bD.nil)))))) (by kernel_rfl)).mono (by
 rintro vs ⟨_,b0,rfl,⟨c0,rfl,w0⟩,_,b1,rfl,⟨c1,rfl,w1⟩,_,b2,rfl,⟨c2,rfl,w2⟩,_,b3,rfl,⟨c3,rfl,w3⟩,_,b4,rfl,⟨c4,rfl,w4⟩,rfl⟩;refine ⟨⟨c0,c1,c2,c3,c4⟩,?_,⟨w0,w1,w2,w3,w4⟩⟩;simp only [List.append_nil]
 rfl)
structure bF.WF (c:bF):Prop where
 places: ∀a∈c.places,RT.wf [.i .i64] a
 wins: ∀a∈c.wins,RT.wf [.i .i64] a
def SW:List SV->Prop:=fun vs=> ∃c:bF,vs=eH.enc c/\c.WF
theorem aTA:cU Tryz.prog 41 SW:=(cU.struct (Ks:=[(WN [.i .i64]),(WN [.i .i64])]) Tryz.underlying41 (bD.cons (by kernel_rfl) QI (bD.cons (by kernel_rfl) QI (bD.nil))) (by kernel_rfl)).mono (by
 rintro vs ⟨_,b0,rfl,⟨c0,rfl,w0⟩,_,b1,rfl,⟨c1,rfl,w1⟩,rfl⟩;refine ⟨⟨c0,c1⟩,?_,⟨w0,w1⟩⟩;simp only [List.append_nil]
 rfl)
structure cC.WF (c:cC):Prop where
 clock:aO.WF c.clock
 bracket:bF.WF c.bracket
def aFI:List SV->Prop:=fun vs=> ∃c:cC,vs=fL.enc c/\c.WF
theorem aTB:cU Tryz.prog 43 aFI:=(cU.struct (Ks:=[aCe,SW]) Tryz.underlying43 (bD.cons (by kernel_rfl) aTz (bD.cons (by kernel_rfl) aTA (bD.nil))) (by kernel_rfl)).mono (by
 rintro vs ⟨_,b0,rfl,⟨c0,rfl,w0⟩,_,b1,rfl,⟨c1,rfl,w1⟩,rfl⟩;refine ⟨⟨c0,c1⟩,?_,⟨w0,w1⟩⟩;simp only [List.append_nil]
 rfl)
theorem aVZ:Tryz.prog.readableRec 43=true/\43<Tryz.prog.types.size:=⟨by kernel_rfl,of_decide_eq_true (by kernel_rfl)⟩
theorem aV0:Tryz.prog.readableRec 23=true/\23<Tryz.prog.types.size:=⟨by kernel_rfl,of_decide_eq_true (by kernel_rfl)⟩
theorem aXF:ownKnob Tryz.prog.godebug=none:=by kernel_rfl
theorem qB {a b:Bool} (h:a=true) (k:b=true):(a&&b)=true:=by rw [h,k];rfl
theorem Qk0:Rows.ktournMovesRow.wf (OpenSpec.ofChange Rows.ktournMovesSpec)=true:=by decide+kernel
theorem Qk1:laidOutB Tryz.prog=true:=by decide+kernel
theorem Qk2:mapsRowed Tryz.prog=true:=by decide+kernel
theorem Qk3:Tryz.f3.params.all (Tryz.prog.readableRec ·)=true:=by decide+kernel
theorem Qk4:namedTie Tryz.prog Rows.ktournMovesRow.named Rows.ktournMovesSpec.vars=true:=by decide+kernel
theorem Qk5:(Rows.ktournMovesRow.stops==[])=true:=by decide+kernel
theorem Qk6:(Tryz.prog.stops==[])=true:=by decide+kernel
theorem Qk7:(Rows.ktournMovesRow.knobs==[])=true:=by decide+kernel
theorem Qk8:(Tryz.prog.stopKnobs==[])=true:=by decide+kernel
theorem Qk9:(Rows.ktournMovesRow.inPlace==Tryz.prog.inPlace 3)=true:=by decide+kernel
theorem aXG:(Rows.ktournMovesRow.unfollowed==Tryz.prog.unfollowed 3)=true:=by decide+kernel
theorem aXH:(Rows.ktournMovesRow.recurses==Tryz.prog.recurses 3)=true:=by decide+kernel
theorem aXI:(Rows.ktournMovesRow.named==Tryz.prog.varsNamed 3)=true:=by decide+kernel
theorem aXJ:(Rows.ktournMovesRow.maps==(Tryz.f3.params.toList++Rows.ktournMovesSpec.plain.varTypes Tryz.prog).any (Tryz.prog.mapsRec ·))=true:=by decide+kernel
theorem aXK:(Rows.ktournMovesRow.ifaces==(Tryz.f3.params.toList++Rows.ktournMovesSpec.plain.varTypes Tryz.prog).any (Tryz.prog.ifacesRec ·))=true:=by decide+kernel
theorem aXL:(Rows.ktournMovesRow.mapsOut==Tryz.prog.mapsAmong Tryz.f3.resultTypes.toList)=true:=by decide+kernel
theorem aXM:(Rows.ktournMovesRow.loops==(Tryz.f3.params.toList++Rows.ktournMovesSpec.plain.varTypes Tryz.prog).any (Tryz.prog.loopsFrom ·))=true:=by decide+kernel
theorem aXN:(Rows.ktournMovesRow.wideKeys==(Tryz.f3.params.toList++Rows.ktournMovesSpec.plain.varTypes Tryz.prog++Tryz.f3.resultTypes.toList).any (Tryz.prog.wideKeysFrom ·))=true:=by decide+kernel
theorem aXO:Rows.ktournMovesSpec.vars.all (Tryz.prog.varReadable ·)=true:=by decide+kernel
theorem aXP:Tryz.f3.resultTypes.all (fun t=>Tryz.prog.readableRec t&&decide (t<Tryz.prog.types.size))=true:=by decide+kernel
theorem aXQ:(Rows.ktournMovesRow.ifacesOut==Tryz.f3.resultTypes.toList.any (Tryz.prog.ifacesRec ·))=true:=by decide+kernel
theorem aXR:(Rows.ktournMovesRow.loopsOut==Tryz.f3.resultTypes.toList.any (Tryz.prog.loopsFrom ·))=true:=by decide+kernel
theorem aXS:(Rows.ktournMovesRow.plainKeys==Tryz.prog.plainKeys)=true:=by decide+kernel
theorem aXT:Rows.ktournMovesRow.shortTexts.isNone=true:=by decide+kernel
theorem aXU:Tryz.prog.stopsHeard=true:=by decide+kernel
theorem aXV:Tryz.prog.mayEnter=true:=by decide+kernel
theorem aXW:(Rows.ktournMovesRow.lifted==Tryz.prog.liftsFinal)=true:=by decide+kernel
theorem aXX:(Tryz.prog.make==some Rows.ktournMovesRow.make)=true:=by decide+kernel
theorem aXY:(Rows.ktournMovesRow.kinds==(if Rows.ktournMovesRow.domain.isEmpty then [] else Tryz.f3.params.toList.map fun t=>match Tryz.prog.underlying t with|some (.int k)=>some k|_=>none))=true:=by decide+kernel
theorem aXZ:(Rows.ktournMovesRow.pinned==Rows.ktournMovesRow.pinnedBy)=true:=by decide+kernel
theorem aX0:(Rows.ktournMovesRow.veiled==(Tryz.f3.params.toList++Rows.ktournMovesSpec.plain.varTypes Tryz.prog++Tryz.f3.resultTypes.toList).any (Tryz.prog.veiledRec ·))=true:=by decide+kernel
theorem aX1:Rows.ktournMovesRow.veiledFits Tryz.prog Tryz.f3.params.toList (Tryz.f3.params.toList++Rows.ktournMovesSpec.plain.varTypes Tryz.prog++Tryz.f3.resultTypes.toList)=true:=by decide+kernel
set_option maxRecDepth 100000 in
theorem aM1:joinedFacts Tryz.prog 3 Tryz.f3 Rows.ktournMovesSpec Rows.ktournMovesRow=true:=(qB (qB (qB (qB (qB (qB (qB (qB (qB (qB (qB (qB (qB (qB (qB (qB (qB (qB (qB (qB (qB (qB (qB (qB (qB (qB (qB (qB (qB (qB (qB Qk0 Qk1) Qk2) Qk3) Qk4) Qk5) Qk6) Qk7) Qk8) Qk9) aXG) aXH) aXI) aXJ) aXK) aXL) aXM) aXN) aXO) aXP) aXQ) aXR) aXS) aXT) aXU) aXV) aXW) aXX) aXY) aXZ) aX0) aX1)
set_option maxRecDepth 100000 in
theorem aM2 (os:Os) (started:os.Started) (H:Type) (enc:TypeId×Value->H):
 ReturnsInHanded {} Tryz.checked os 3 .any (Rows.ktournMovesSpec.pre6 enc Tryz.prog Tryz.f3 Rows.ktournMovesRow.domain false) (Rows.ktournMovesSpec.post enc Tryz.prog Tryz.f3 false true false false):=by
 refine returnsInHanded_of_change (C:=Tryz.checked) aXF started (by kernel_rfl) Tryz.func3
  (ChangeSpec.witness6 (enc:=enc) (C:=Tryz.checked) false ⟨#[],#[.agg #[.int .i64 0,.int .i64 0,.slice none 0 0,.int .i64 0,.slice none 0 0,.slice none 0 0,.slice none 0 0,.slice none 0 0,.slice none 0 0,.slice none 0 0,.slice none 0 0,.slice none 0 0,.slice none 0 0],.agg #[.int .i64 0,.int .i64 0]],[]⟩ 16 (by kernel_rfl) (by kernel_rfl) (by kernel_rfl) (by kernel_rfl)) ?_
 intro W base args ds gs before hval0 hW hcnd _;have hval: ∀(j:Nat) t v,Tryz.f3.params[j]? =some t->args[j]? =some v->Value.okWide Tryz.prog W .any base t v:=hval0;have hW':=hW;obtain ⟨p,q,hA0,hV,rfl,hfz,hnd⟩:=hW;have hA:DataW.TrodAll enc Tryz.prog W 0 (fun _=>true) true Tryz.f3.params.toList args.toList ds p:=hA0
 rw [Tryz.params3] at hA hval;obtain ⟨v0,vs0,d0,ds0,p0,q0,hargs,rfl,rfl,h0,r0⟩:=trodAll_cons hA;obtain ⟨v1,vs1,d1,ds1,p1,q1,rfl,rfl,rfl,h1,r1⟩:=trodAll_cons r0;obtain ⟨rfl,rfl,rfl⟩:=trodAll_nil r1;obtain rfl:args= #[v0,v1]:=by cases args;simp_all
 obtain ⟨rfl,rfl⟩:=trodVars_none hV;obtain ⟨_,g0,⟨a0,rfl,w0⟩,e0,k0⟩:=cU.argS aTB Tryz.underlying43 (hval 0 43 v0 rfl rfl) h0;obtain rfl:g0=(pvL (fL.enc a0)).getD []:=by rw [e0];rfl
 obtain ⟨_,g1,⟨a1,rfl,w1⟩,e1,k1⟩:=cU.argS aAP Tryz.underlying23 (hval 1 23 v1 rfl rfl) h1;obtain rfl:g1=(pvL (RT.sv [.i .i64,.i .i64] a1)).getD []:=by rw [e1];rfl
 obtain ⟨n,s,z,hrun⟩:=aI.runA aVR aNq (a:=(a0,a1)) (C7 a0 a1 (aDe.of w0.clock.now w0.clock.agenda.heap) ⟨KN w1.1,KN w1.2⟩) (ps:=[.agg ((pvL (fL.enc a0)).getD []),.agg ((pvL (RT.sv [.i .i64,.i .i64] a1)).getD [])]) rfl rfl
 refine (aCz (P:=Tryz.prog) (prims:=fun _=>true) (TT.tabOK aBk) (TT.primsOK aBk) nR hrun (us:=[v0,v1]) (w:=W) (.cons _ _ _ _ k0 (.cons _ _ _ _ k1 (.nil)))).mono fun e W' ⟨he,hb⟩=>?_
 subst he;exact ⟨_,rfl,aDL (P:=Tryz.prog) (bt:=4) Qk1 rfl rfl (by kernel_rfl) (by
  rw [Tryz.params3];intro t ht;simp only [List.mem_cons,List.not_mem_nil,or_false] at ht;rcases ht with rfl|rfl
  · exact aVZ
  · exact aV0) hW' rfl hb⟩
theorem ktournMoves_holds:Rows.KtournMovesSaid:=
 OpenClaim.holds_of_wide 3 Tryz.f3 rfl rfl rfl rfl rfl rfl rfl ⟨rfl,rfl,rfl,rfl,rfl⟩ rfl rfl rfl rfl rfl (by kernel_rfl) Tryz.func3 aM1
  (of_decide_eq_true (by kernel_rfl)) (by unfold Func.isWrapper;first|(rw [if_pos (by decide+kernel)];kernel_rfl)|(rw [if_neg (by decide+kernel)];exact ⟨rfl,rfl⟩))
  (fun os started H enc _=>aM2 os started H enc)
end Go.Proofs.YtlnclppkepgdmaaGreat
