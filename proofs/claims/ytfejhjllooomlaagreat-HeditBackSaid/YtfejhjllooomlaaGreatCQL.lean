/- The law HeditBack returns true: its plain function gives true whatever comes in. -/
import Derived.Test.YtfejhjllooomlaaGreatRows
import Derived.Test.YtfejhjllooomlaaGreatCQS2
import Derived.Test.YtfejhjllooomlaaGreatCQM4
import Derived.Test.YtfejhjllooomlaaGreatCVm3
namespace Go.Proofs.YtfejhjllooomlaaGreat
open Go.ChangeShapes Go.WideShapes Go.ChangeAt Go.RowKit Go.Vm
theorem aAi:cT Tryz.prog 2 (iR [.i .i64]):=cT.int Tryz.underlying2
theorem aDG:cT Tryz.prog 23 (iR [.i .i64,.i .i64]):=(cT.struct (Ks:=[(iR [.i .i64]),(iR [.i .i64])]) Tryz.underlying23 (bH.cons (by kernel_rfl) aAi (bH.cons (by kernel_rfl) aAi (bH.nil))) (by kernel_rfl)).mono (fun vs h=>qK (rs:=[[.i .i64],[.i .i64]]) h)
theorem FK:cT Tryz.prog 3 (iR [.i .i64]):=cT.int Tryz.underlying3
theorem aDH:cT Tryz.prog 76 (iR [.i .i64,.i .i64,.i .i64]):=(cT.struct (Ks:=[(iR [.i .i64]),(iR [.i .i64]),(iR [.i .i64])]) Tryz.underlying76 (bH.cons (by kernel_rfl) FK (bH.cons (by kernel_rfl) aAi (bH.cons (by kernel_rfl) aAi (bH.nil)))) (by kernel_rfl)).mono (fun vs h=>qK (rs:=[[.i .i64],[.i .i64],[.i .i64]]) h)
theorem aQp:cT Tryz.prog 24 (V1 [.i .i64,.i .i64,.i .i64]):=cT.slice (r:=[.i .i64,.i .i64,.i .i64]) Tryz.underlying24 aDH (by kernel_rfl) (by decide)
structure Field.WF (c:Field):Prop where
 points: ∀a∈c.points,RT.wf [.i .i64,.i .i64,.i .i64] a
def aAj:List SV->Prop:=fun vs=> ∃c:Field,vs=cM.enc c/\c.WF
theorem aQq:cT Tryz.prog 26 aAj:=(cT.struct (Ks:=[(V1 [.i .i64,.i .i64,.i .i64])]) Tryz.underlying26 (bH.cons (by kernel_rfl) aQp (bH.nil)) (by kernel_rfl)).mono (by
 rintro vs ⟨_,b0,rfl,⟨c0,rfl,w0⟩,rfl⟩;refine ⟨⟨c0⟩,?_,⟨w0⟩⟩;simp only [List.append_nil]
 rfl)
theorem aQr:cT Tryz.prog 71 (iR [.i .i64,.i .i64]):=(cT.struct (Ks:=[(iR [.i .i64]),(iR [.i .i64])]) Tryz.underlying71 (bH.cons (by kernel_rfl) FK (bH.cons (by kernel_rfl) FK (bH.nil))) (by kernel_rfl)).mono (fun vs h=>qK (rs:=[[.i .i64],[.i .i64]]) h)
theorem aKs:cT Tryz.prog 156 (iR [.i .i64,.i .i64,.i .i64]):=(cT.struct (Ks:=[(iR [.i .i64]),(iR [.i .i64,.i .i64])]) Tryz.underlying156 (bH.cons (by kernel_rfl) FK (bH.cons (by kernel_rfl) aQr (bH.nil))) (by kernel_rfl)).mono (fun vs h=>qK (rs:=[[.i .i64],[.i .i64,.i .i64]]) h)
theorem aQs:cT Tryz.prog 27 (V1 [.i .i64,.i .i64,.i .i64]):=cT.slice (r:=[.i .i64,.i .i64,.i .i64]) Tryz.underlying27 aKs (by kernel_rfl) (by decide)
structure bG.WF (c:bG):Prop where
 next_:RT.wf [.i .i64] c.next_
 list: ∀a∈c.list,RT.wf [.i .i64,.i .i64,.i .i64] a
def aAk:List SV->Prop:=fun vs=> ∃c:bG,vs=gV.enc c/\c.WF
theorem aQt:cT Tryz.prog 29 aAk:=(cT.struct (Ks:=[(iR [.i .i64]),(V1 [.i .i64,.i .i64,.i .i64])]) Tryz.underlying29 (bH.cons (by kernel_rfl) FK (bH.cons (by kernel_rfl) aQs (bH.nil))) (by kernel_rfl)).mono (by
 rintro vs ⟨_,b0,rfl,⟨c0,rfl,w0⟩,_,b1,rfl,⟨c1,rfl,w1⟩,rfl⟩;refine ⟨⟨c0,c1⟩,?_,⟨w0,w1⟩⟩;simp only [List.append_nil]
 rfl)
theorem SL:cT Tryz.prog 30 (V1 [.i .i64]):=cT.slice (r:=[.i .i64]) Tryz.underlying30 FK (by kernel_rfl) (by decide)
theorem aTd:cT Tryz.prog 4 (iR [.b]):=cT.bool Tryz.underlying4
theorem aQu:cT Tryz.prog 31 (V1 [.b]):=cT.slice (r:=[.b]) Tryz.underlying31 aTd (by kernel_rfl) (by decide)
structure aX.WF (c:aX):Prop where
 uses: ∀a∈c.uses,RT.wf [.i .i64] a
 used: ∀a∈c.used,RT.wf [.b] a
 free: ∀a∈c.free,RT.wf [.i .i64] a
def aAl:List SV->Prop:=fun vs=> ∃c:aX,vs=gH.enc c/\c.WF
theorem aQv:cT Tryz.prog 33 aAl:=(cT.struct (Ks:=[(V1 [.i .i64]),(V1 [.b]),(V1 [.i .i64])]) Tryz.underlying33 (bH.cons (by kernel_rfl) SL (bH.cons (by kernel_rfl) aQu (bH.cons (by kernel_rfl) SL (bH.nil)))) (by kernel_rfl)).mono (by
 rintro vs ⟨_,b0,rfl,⟨c0,rfl,w0⟩,_,b1,rfl,⟨c1,rfl,w1⟩,_,b2,rfl,⟨c2,rfl,w2⟩,rfl⟩;refine ⟨⟨c0,c1,c2⟩,?_,⟨w0,w1,w2⟩⟩;simp only [List.append_nil]
 rfl)
theorem aAm:cT Tryz.prog 126 (iR [.i .i64,.i .i64]):=(cT.struct (Ks:=[(iR [.i .i64]),(iR [.i .i64])]) Tryz.underlying126 (bH.cons (by kernel_rfl) FK (bH.cons (by kernel_rfl) FK (bH.nil))) (by kernel_rfl)).mono (fun vs h=>qK (rs:=[[.i .i64],[.i .i64]]) h)
theorem aKt:cT Tryz.prog 128 (iR [.i .i64,.i .i64,.i .i64,.i .i64,.i .i64]):=(cT.struct (Ks:=[(iR [.i .i64,.i .i64]),(iR [.i .i64]),(iR [.i .i64,.i .i64])]) Tryz.underlying128 (bH.cons (by kernel_rfl) aDG (bH.cons (by kernel_rfl) FK (bH.cons (by kernel_rfl) aAm (bH.nil)))) (by kernel_rfl)).mono (fun vs h=>qK (rs:=[[.i .i64,.i .i64],[.i .i64],[.i .i64,.i .i64]]) h)
theorem aQw:cT Tryz.prog 34 (V1 [.i .i64,.i .i64,.i .i64,.i .i64,.i .i64]):=cT.slice (r:=[.i .i64,.i .i64,.i .i64,.i .i64,.i .i64]) Tryz.underlying34 aKt (by kernel_rfl) (by decide)
structure aO.WF (c:aO):Prop where
 slots:aX.WF c.slots
 heap: ∀a∈c.heap,RT.wf [.i .i64,.i .i64,.i .i64,.i .i64,.i .i64] a
 where_: ∀a∈c.where_,RT.wf [.i .i64] a
def V0:List SV->Prop:=fun vs=> ∃c:aO,vs=dF.enc c/\c.WF
theorem aQx:cT Tryz.prog 36 V0:=(cT.struct (Ks:=[aAl,(V1 [.i .i64,.i .i64,.i .i64,.i .i64,.i .i64]),(V1 [.i .i64])]) Tryz.underlying36 (bH.cons (by kernel_rfl) aQv (bH.cons (by kernel_rfl) aQw (bH.cons (by kernel_rfl) SL (bH.nil)))) (by kernel_rfl)).mono (by
 rintro vs ⟨_,b0,rfl,⟨c0,rfl,w0⟩,_,b1,rfl,⟨c1,rfl,w1⟩,_,b2,rfl,⟨c2,rfl,w2⟩,rfl⟩;refine ⟨⟨c0,c1,c2⟩,?_,⟨w0,w1,w2⟩⟩;simp only [List.append_nil]
 rfl)
theorem aKu:cT Tryz.prog 160 (iR [.i .i64,.i .i64,.i .i64]):=(cT.struct (Ks:=[(iR [.i .i64]),(iR [.i .i64,.i .i64])]) Tryz.underlying160 (bH.cons (by kernel_rfl) FK (bH.cons (by kernel_rfl) aAm (bH.nil))) (by kernel_rfl)).mono (fun vs h=>qK (rs:=[[.i .i64],[.i .i64,.i .i64]]) h)
theorem aQy:cT Tryz.prog 37 (V1 [.i .i64,.i .i64,.i .i64]):=cT.slice (r:=[.i .i64,.i .i64,.i .i64]) Tryz.underlying37 aKu (by kernel_rfl) (by decide)
structure aQ.WF (c:aQ):Prop where
 now:RT.wf [.i .i64,.i .i64] c.now
 field:Field.WF c.field
 certs:bG.WF c.certs
 agenda:aO.WF c.agenda
 due: ∀a∈c.due,RT.wf [.i .i64,.i .i64,.i .i64] a
def aAn:List SV->Prop:=fun vs=> ∃c:aQ,vs=bU.enc c/\c.WF
theorem aQz:cT Tryz.prog 39 aAn:=(cT.struct (Ks:=[(iR [.i .i64,.i .i64]),aAj,aAk,V0,(V1 [.i .i64,.i .i64,.i .i64])]) Tryz.underlying39 (bH.cons (by kernel_rfl) aDG (bH.cons (by kernel_rfl) aQq (bH.cons (by kernel_rfl) aQt (bH.cons (by kernel_rfl) aQx (bH.cons (by kernel_rfl) aQy (bH.nil)))))) (by kernel_rfl)).mono (by
 rintro vs ⟨_,b0,rfl,⟨c0,rfl,w0⟩,_,b1,rfl,⟨c1,rfl,w1⟩,_,b2,rfl,⟨c2,rfl,w2⟩,_,b3,rfl,⟨c3,rfl,w3⟩,_,b4,rfl,⟨c4,rfl,w4⟩,rfl⟩;refine ⟨⟨c0,c1,c2,c3,c4⟩,?_,⟨w0,w1,w2,w3,w4⟩⟩;simp only [List.append_nil]
 rfl)
structure bM.WF (c:bM):Prop where
 clock:aQ.WF c.clock
 heap: ∀a∈c.heap,RT.wf [.i .i64] a
def aKv:List SV->Prop:=fun vs=> ∃c:bM,vs=hY.enc c/\c.WF
theorem aQA:cT Tryz.prog 41 aKv:=(cT.struct (Ks:=[aAn,(V1 [.i .i64])]) Tryz.underlying41 (bH.cons (by kernel_rfl) aQz (bH.cons (by kernel_rfl) SL (bH.nil))) (by kernel_rfl)).mono (by
 rintro vs ⟨_,b0,rfl,⟨c0,rfl,w0⟩,_,b1,rfl,⟨c1,rfl,w1⟩,rfl⟩;refine ⟨⟨c0,c1⟩,?_,⟨w0,w1⟩⟩;simp only [List.append_nil]
 rfl)
theorem aTe:Tryz.prog.readableRec 41=true/\41<Tryz.prog.types.size:=⟨by kernel_rfl,of_decide_eq_true (by kernel_rfl)⟩
theorem aTf:Tryz.prog.readableRec 76=true/\76<Tryz.prog.types.size:=⟨by kernel_rfl,of_decide_eq_true (by kernel_rfl)⟩
theorem aUS:Tryz.prog.readableRec 3=true/\3<Tryz.prog.types.size:=⟨by kernel_rfl,of_decide_eq_true (by kernel_rfl)⟩
theorem aUT:ownKnob Tryz.prog.godebug=none:=by kernel_rfl
theorem qC {a b:Bool} (h:a=true) (k:b=true):(a&&b)=true:=by rw [h,k];rfl
theorem Qk0:Rows.heditBackRow.wf (OpenSpec.ofChange Rows.heditBackSpec)=true:=by decide+kernel
theorem Qk1:laidOutB Tryz.prog=true:=by decide+kernel
theorem Qk2:mapsRowed Tryz.prog=true:=by decide+kernel
theorem Qk3:Tryz.f7.params.all (Tryz.prog.readableRec ·)=true:=by decide+kernel
theorem Qk4:namedTie Tryz.prog Rows.heditBackRow.named Rows.heditBackSpec.vars=true:=by decide+kernel
theorem Qk5:(Rows.heditBackRow.stops==[])=true:=by decide+kernel
theorem Qk6:(Tryz.prog.stops==[])=true:=by decide+kernel
theorem Qk7:(Rows.heditBackRow.knobs==[])=true:=by decide+kernel
theorem Qk8:(Tryz.prog.stopKnobs==[])=true:=by decide+kernel
theorem Qk9:(Rows.heditBackRow.inPlace==Tryz.prog.inPlace 7)=true:=by decide+kernel
theorem aUU:(Rows.heditBackRow.unfollowed==Tryz.prog.unfollowed 7)=true:=by decide+kernel
theorem aUV:(Rows.heditBackRow.recurses==Tryz.prog.recurses 7)=true:=by decide+kernel
theorem aUW:(Rows.heditBackRow.named==Tryz.prog.varsNamed 7)=true:=by decide+kernel
theorem aUX:(Rows.heditBackRow.maps==(Tryz.f7.params.toList++Rows.heditBackSpec.plain.varTypes Tryz.prog).any (Tryz.prog.mapsRec ·))=true:=by decide+kernel
theorem aUY:(Rows.heditBackRow.ifaces==(Tryz.f7.params.toList++Rows.heditBackSpec.plain.varTypes Tryz.prog).any (Tryz.prog.ifacesRec ·))=true:=by decide+kernel
theorem aUZ:(Rows.heditBackRow.mapsOut==Tryz.prog.mapsAmong Tryz.f7.resultTypes.toList)=true:=by decide+kernel
theorem aU0:(Rows.heditBackRow.loops==(Tryz.f7.params.toList++Rows.heditBackSpec.plain.varTypes Tryz.prog).any (Tryz.prog.loopsFrom ·))=true:=by decide+kernel
theorem aU1:(Rows.heditBackRow.wideKeys==(Tryz.f7.params.toList++Rows.heditBackSpec.plain.varTypes Tryz.prog++Tryz.f7.resultTypes.toList).any (Tryz.prog.wideKeysFrom ·))=true:=by decide+kernel
theorem aU2:Rows.heditBackSpec.vars.all (Tryz.prog.varReadable ·)=true:=by decide+kernel
theorem aU3:Tryz.f7.resultTypes.all (fun t=>Tryz.prog.readableRec t&&decide (t<Tryz.prog.types.size))=true:=by decide+kernel
theorem aU4:(Rows.heditBackRow.ifacesOut==Tryz.f7.resultTypes.toList.any (Tryz.prog.ifacesRec ·))=true:=by decide+kernel
theorem aU5:(Rows.heditBackRow.loopsOut==Tryz.f7.resultTypes.toList.any (Tryz.prog.loopsFrom ·))=true:=by decide+kernel
theorem aU6:(Rows.heditBackRow.plainKeys==Tryz.prog.plainKeys)=true:=by decide+kernel
theorem aU7:Rows.heditBackRow.shortTexts.isNone=true:=by decide+kernel
theorem aU8:Tryz.prog.stopsHeard=true:=by decide+kernel
theorem aU9:Tryz.prog.mayEnter=true:=by decide+kernel
theorem aVa:(Rows.heditBackRow.lifted==Tryz.prog.liftsFinal)=true:=by decide+kernel
theorem aVb:(Tryz.prog.make==some Rows.heditBackRow.make)=true:=by decide+kernel
theorem aVc:(Rows.heditBackRow.kinds==(if Rows.heditBackRow.domain.isEmpty then [] else Tryz.f7.params.toList.map fun t=>match Tryz.prog.underlying t with|some (.int k)=>some k|_=>none))=true:=by decide+kernel
theorem aVd:(Rows.heditBackRow.pinned==Rows.heditBackRow.pinnedBy)=true:=by decide+kernel
theorem aVe:(Rows.heditBackRow.veiled==(Tryz.f7.params.toList++Rows.heditBackSpec.plain.varTypes Tryz.prog++Tryz.f7.resultTypes.toList).any (Tryz.prog.veiledRec ·))=true:=by decide+kernel
theorem aVf:Rows.heditBackRow.veiledFits Tryz.prog Tryz.f7.params.toList (Tryz.f7.params.toList++Rows.heditBackSpec.plain.varTypes Tryz.prog++Tryz.f7.resultTypes.toList)=true:=by decide+kernel
set_option maxRecDepth 100000 in
theorem aKw:joinedFacts Tryz.prog 7 Tryz.f7 Rows.heditBackSpec Rows.heditBackRow=true:=(qC (qC (qC (qC (qC (qC (qC (qC (qC (qC (qC (qC (qC (qC (qC (qC (qC (qC (qC (qC (qC (qC (qC (qC (qC (qC (qC (qC (qC (qC (qC Qk0 Qk1) Qk2) Qk3) Qk4) Qk5) Qk6) Qk7) Qk8) Qk9) aUU) aUV) aUW) aUX) aUY) aUZ) aU0) aU1) aU2) aU3) aU4) aU5) aU6) aU7) aU8) aU9) aVa) aVb) aVc) aVd) aVe) aVf)
set_option maxRecDepth 100000 in
theorem aKx (os:Os) (started:os.Started) (H:Type) (enc:TypeId×Value->H):
 ReturnsInHanded {} Tryz.checked os 7 .any (Rows.heditBackSpec.pre6 enc Tryz.prog Tryz.f7 Rows.heditBackRow.domain false) (Rows.heditBackSpec.post enc Tryz.prog Tryz.f7 false true false false):=by
 refine returnsInHanded_of_change (C:=Tryz.checked) aUT started (by kernel_rfl) Tryz.func7
  (ChangeSpec.witness6 (enc:=enc) (C:=Tryz.checked) false ⟨#[],#[.agg #[.int .i64 0,.int .i64 0,.slice none 0 0,.int .i64 0,.slice none 0 0,.slice none 0 0,.slice none 0 0,.slice none 0 0,.slice none 0 0,.slice none 0 0,.slice none 0 0,.slice none 0 0],.agg #[.int .i64 0,.int .i64 0,.int .i64 0],.int .i64 0],[]⟩ 16 (by kernel_rfl) (by kernel_rfl) (by kernel_rfl) (by kernel_rfl)) ?_
 intro W base args ds gs before hval0 hW hcnd _;have hval: ∀(j:Nat) t v,Tryz.f7.params[j]? =some t->args[j]? =some v->Value.okWide Tryz.prog W .any base t v:=hval0;have hW':=hW;obtain ⟨p,q,hA0,hV,rfl,hfz,hnd⟩:=hW;have hA:DataW.TrodAll enc Tryz.prog W 0 (fun _=>true) true Tryz.f7.params.toList args.toList ds p:=hA0
 rw [Tryz.params7] at hA hval;obtain ⟨v0,vs0,d0,ds0,p0,q0,hargs,rfl,rfl,h0,r0⟩:=trodAll_cons hA;obtain ⟨v1,vs1,d1,ds1,p1,q1,rfl,rfl,rfl,h1,r1⟩:=trodAll_cons r0;obtain ⟨v2,vs2,d2,ds2,p2,q2,rfl,rfl,rfl,h2,r2⟩:=trodAll_cons r1;obtain ⟨rfl,rfl,rfl⟩:=trodAll_nil r2;obtain rfl:args= #[v0,v1,v2]:=by cases args;simp_all
 obtain ⟨rfl,rfl⟩:=trodVars_none hV;obtain ⟨_,g0,⟨a0,rfl,w0⟩,e0,k0⟩:=cT.argS aQA Tryz.underlying41 (hval 0 41 v0 rfl rfl) h0;obtain rfl:g0=(pvL (hY.enc a0)).getD []:=by rw [e0];rfl
 obtain ⟨_,g1,⟨a1,rfl,w1⟩,e1,k1⟩:=cT.argS aDH Tryz.underlying76 (hval 1 76 v1 rfl rfl) h1;obtain rfl:g1=(pvL (RT.sv [.i .i64,.i .i64,.i .i64] a1)).getD []:=by rw [e1];rfl
 obtain ⟨a2,w2,k2⟩:=cT.argI Tryz.underlying3 (hval 2 3 v2 rfl rfl) h2;obtain ⟨n,s,z,hrun⟩:=aK.runA aST aKU (a:=(a0,a1,a2)) (DW a0 a1 a2 (aDw.of w0.clock.now w0.clock.agenda.heap)) (ps:=[.agg ((pvL (hY.enc a0)).getD []),.agg ((pvL (RT.sv [.i .i64,.i .i64,.i .i64] a1)).getD []),.int .i64 a2]) rfl rfl
 refine (aAK (P:=Tryz.prog) (prims:=fun _=>true) (TT.tabOK Y7) (TT.primsOK Y7) nW hrun (us:=[v0,v1,v2]) (w:=W) (.cons _ _ _ _ k0 (.cons _ _ _ _ k1 (.cons _ _ _ _ k2 (.nil))))).mono fun e W' ⟨he,hb⟩=>?_
 subst he;exact ⟨_,rfl,aBS (P:=Tryz.prog) (bt:=4) Qk1 rfl rfl (by kernel_rfl) (by
  rw [Tryz.params7];intro t ht;simp only [List.mem_cons,List.not_mem_nil,or_false] at ht;rcases ht with rfl|rfl|rfl
  · exact aTe
  · exact aTf
  · exact aUS) hW' rfl hb⟩
theorem heditBack_holds:Rows.HeditBackSaid:=
 OpenClaim.holds_of_wide 7 Tryz.f7 rfl rfl rfl rfl rfl rfl rfl ⟨rfl,rfl,rfl,rfl,rfl⟩ rfl rfl rfl rfl rfl (by kernel_rfl) Tryz.func7 aKw
  (of_decide_eq_true (by kernel_rfl)) (by unfold Func.isWrapper;first|(rw [if_pos (by decide+kernel)];kernel_rfl)|(rw [if_neg (by decide+kernel)];exact ⟨rfl,rfl⟩))
  (fun os started H enc _=>aKx os started H enc)
end Go.Proofs.YtfejhjllooomlaaGreat
