/- The law TeditPlaces returns true: its plain function gives true whatever comes in. -/
import Derived.Test.YtbgoiokedpjgbaaGreatRows
import Derived.Test.YtbgoiokedpjgbaaGreatLQS2
import Derived.Test.YtbgoiokedpjgbaaGreatLQM5
import Derived.Test.YtbgoiokedpjgbaaGreatLVm3
open List renaming append_nil->ut
open Option renaming none->v6
open Bool renaming true->ww
namespace Go.Proofs.YtbgoiokedpjgbaaGreat
open Go.ChangeShapes Go.WideShapes Go.ChangeAt Go.RowKit Go.Vm
theorem QV:cD Tryz.prog 2 (gM [.i .i64]):=cD.int Tryz.underlying2
theorem Wc:cD Tryz.prog 23 (gM [.i .i64,.i .i64]):=(cD.struct (Ks:=[(gM [.i .i64]),(gM [.i .i64])]) Tryz.underlying23 (bk.cons (by kernel_rfl) QV (bk.cons (by kernel_rfl) QV (bk.nil))) (by kernel_rfl)).mono (fun vs h=>ni (rs:=[[.i .i64],[.i .i64]]) h)
theorem zI:cD Tryz.prog 3 (gM [.i .i64]):=cD.int Tryz.underlying3
theorem Wd:cD Tryz.prog 58 (gM [.i .i64,.i .i64,.i .i64]):=(cD.struct (Ks:=[(gM [.i .i64]),(gM [.i .i64]),(gM [.i .i64])]) Tryz.underlying58 (bk.cons (by kernel_rfl) zI (bk.cons (by kernel_rfl) QV (bk.cons (by kernel_rfl) QV (bk.nil)))) (by kernel_rfl)).mono (fun vs h=>ni (rs:=[[.i .i64],[.i .i64],[.i .i64]]) h)
theorem amb:cD Tryz.prog 24 (Lx [.i .i64,.i .i64,.i .i64]):=cD.slice (r:=[.i .i64,.i .i64,.i .i64]) Tryz.underlying24 Wd (by kernel_rfl) (by decide)
structure Field.WF (c:Field):Prop where
 am: ∀a∈c.am,RT.wf [.i .i64,.i .i64,.i .i64] a
def QW:List SV->Prop:=fun vs=> ∃c:Field,vs=bR.enc c/\c.WF
theorem amc:cD Tryz.prog 26 QW:=(cD.struct (Ks:=[(Lx [.i .i64,.i .i64,.i .i64])]) Tryz.underlying26 (bk.cons (by kernel_rfl) amb (bk.nil)) (by kernel_rfl)).mono (by
 rintro vs ⟨_,b0,rfl,⟨c0,rfl,w0⟩,rfl⟩;refine ⟨⟨c0⟩,?_,⟨w0⟩⟩;simp only [ut]
 rfl)
theorem aen:cD Tryz.prog 150 (gM [.i .i64,.i .i64]):=(cD.struct (Ks:=[(gM [.i .i64]),(gM [.i .i64])]) Tryz.underlying150 (bk.cons (by kernel_rfl) zI (bk.cons (by kernel_rfl) zI (bk.nil))) (by kernel_rfl)).mono (fun vs h=>ni (rs:=[[.i .i64],[.i .i64]]) h)
theorem aeo:cD Tryz.prog 152 (gM [.i .i64,.i .i64,.i .i64]):=(cD.struct (Ks:=[(gM [.i .i64]),(gM [.i .i64,.i .i64])]) Tryz.underlying152 (bk.cons (by kernel_rfl) zI (bk.cons (by kernel_rfl) aen (bk.nil))) (by kernel_rfl)).mono (fun vs h=>ni (rs:=[[.i .i64],[.i .i64,.i .i64]]) h)
theorem amd:cD Tryz.prog 27 (Lx [.i .i64,.i .i64,.i .i64]):=cD.slice (r:=[.i .i64,.i .i64,.i .i64]) Tryz.underlying27 aeo (by kernel_rfl) (by decide)
structure bG.WF (c:bG):Prop where
 aL:RT.wf [.i .i64] c.aL
 ce: ∀a∈c.ce,RT.wf [.i .i64,.i .i64,.i .i64] a
def QX:List SV->Prop:=fun vs=> ∃c:bG,vs=gV.enc c/\c.WF
theorem ame:cD Tryz.prog 29 QX:=(cD.struct (Ks:=[(gM [.i .i64]),(Lx [.i .i64,.i .i64,.i .i64])]) Tryz.underlying29 (bk.cons (by kernel_rfl) zI (bk.cons (by kernel_rfl) amd (bk.nil))) (by kernel_rfl)).mono (by
 rintro vs ⟨_,b0,rfl,⟨c0,rfl,w0⟩,_,b1,rfl,⟨c1,rfl,w1⟩,rfl⟩;refine ⟨⟨c0,c1⟩,?_,⟨w0,w1⟩⟩;simp only [ut]
 rfl)
theorem GH:cD Tryz.prog 30 (Lx [.i .i64]):=cD.slice (r:=[.i .i64]) Tryz.underlying30 zI (by kernel_rfl) (by decide)
theorem aqQ:cD Tryz.prog 4 (gM [.b]):=cD.bool Tryz.underlying4
theorem amf:cD Tryz.prog 31 (Lx [.b]):=cD.slice (r:=[.b]) Tryz.underlying31 aqQ (by kernel_rfl) (by decide)
structure bc.WF (c:bc):Prop where
 aB: ∀a∈c.aB,RT.wf [.i .i64] a
 be: ∀a∈c.be,RT.wf [.b] a
 bi: ∀a∈c.bi,RT.wf [.i .i64] a
def QY:List SV->Prop:=fun vs=> ∃c:bc,vs=ga.enc c/\c.WF
theorem amg:cD Tryz.prog 33 QY:=(cD.struct (Ks:=[(Lx [.i .i64]),(Lx [.b]),(Lx [.i .i64])]) Tryz.underlying33 (bk.cons (by kernel_rfl) GH (bk.cons (by kernel_rfl) amf (bk.cons (by kernel_rfl) GH (bk.nil)))) (by kernel_rfl)).mono (by
 rintro vs ⟨_,b0,rfl,⟨c0,rfl,w0⟩,_,b1,rfl,⟨c1,rfl,w1⟩,_,b2,rfl,⟨c2,rfl,w2⟩,rfl⟩;refine ⟨⟨c0,c1,c2⟩,?_,⟨w0,w1,w2⟩⟩;simp only [ut]
 rfl)
theorem QZ:cD Tryz.prog 142 (gM [.i .i64,.i .i64]):=(cD.struct (Ks:=[(gM [.i .i64]),(gM [.i .i64])]) Tryz.underlying142 (bk.cons (by kernel_rfl) zI (bk.cons (by kernel_rfl) zI (bk.nil))) (by kernel_rfl)).mono (fun vs h=>ni (rs:=[[.i .i64],[.i .i64]]) h)
theorem aep:cD Tryz.prog 156 (gM [.i .i64,.i .i64,.i .i64,.i .i64,.i .i64]):=(cD.struct (Ks:=[(gM [.i .i64,.i .i64]),(gM [.i .i64]),(gM [.i .i64,.i .i64])]) Tryz.underlying156 (bk.cons (by kernel_rfl) Wc (bk.cons (by kernel_rfl) zI (bk.cons (by kernel_rfl) QZ (bk.nil)))) (by kernel_rfl)).mono (fun vs h=>ni (rs:=[[.i .i64,.i .i64],[.i .i64],[.i .i64,.i .i64]]) h)
theorem amh:cD Tryz.prog 34 (Lx [.i .i64,.i .i64,.i .i64,.i .i64,.i .i64]):=cD.slice (r:=[.i .i64,.i .i64,.i .i64,.i .i64,.i .i64]) Tryz.underlying34 aep (by kernel_rfl) (by decide)
structure aM.WF (c:aM):Prop where
 af:bc.WF c.af
 bv: ∀a∈c.bv,RT.wf [.i .i64,.i .i64,.i .i64,.i .i64,.i .i64] a
 aj: ∀a∈c.aj,RT.wf [.i .i64] a
def M9:List SV->Prop:=fun vs=> ∃c:aM,vs=dw.enc c/\c.WF
theorem ami:cD Tryz.prog 36 M9:=(cD.struct (Ks:=[QY,(Lx [.i .i64,.i .i64,.i .i64,.i .i64,.i .i64]),(Lx [.i .i64])]) Tryz.underlying36 (bk.cons (by kernel_rfl) amg (bk.cons (by kernel_rfl) amh (bk.cons (by kernel_rfl) GH (bk.nil)))) (by kernel_rfl)).mono (by
 rintro vs ⟨_,b0,rfl,⟨c0,rfl,w0⟩,_,b1,rfl,⟨c1,rfl,w1⟩,_,b2,rfl,⟨c2,rfl,w2⟩,rfl⟩;refine ⟨⟨c0,c1,c2⟩,?_,⟨w0,w1,w2⟩⟩;simp only [ut]
 rfl)
theorem aeq:cD Tryz.prog 144 (gM [.i .i64,.i .i64,.i .i64]):=(cD.struct (Ks:=[(gM [.i .i64]),(gM [.i .i64,.i .i64])]) Tryz.underlying144 (bk.cons (by kernel_rfl) zI (bk.cons (by kernel_rfl) QZ (bk.nil))) (by kernel_rfl)).mono (fun vs h=>ni (rs:=[[.i .i64],[.i .i64,.i .i64]]) h)
theorem amj:cD Tryz.prog 37 (Lx [.i .i64,.i .i64,.i .i64]):=cD.slice (r:=[.i .i64,.i .i64,.i .i64]) Tryz.underlying37 aeq (by kernel_rfl) (by decide)
structure aP.WF (c:aP):Prop where
 ci:RT.wf [.i .i64,.i .i64] c.ci
 ii:Field.WF c.ii
 ai:bG.WF c.ai
 aa:aM.WF c.aa
 io: ∀a∈c.io,RT.wf [.i .i64,.i .i64,.i .i64] a
def Q0:List SV->Prop:=fun vs=> ∃c:aP,vs=bV.enc c/\c.WF
theorem amk:cD Tryz.prog 39 Q0:=(cD.struct (Ks:=[(gM [.i .i64,.i .i64]),QW,QX,M9,(Lx [.i .i64,.i .i64,.i .i64])]) Tryz.underlying39 (bk.cons (by kernel_rfl) Wc (bk.cons (by kernel_rfl) amc (bk.cons (by kernel_rfl) ame (bk.cons (by kernel_rfl) ami (bk.cons (by kernel_rfl) amj (bk.nil)))))) (by kernel_rfl)).mono (by
 rintro vs ⟨_,b0,rfl,⟨c0,rfl,w0⟩,_,b1,rfl,⟨c1,rfl,w1⟩,_,b2,rfl,⟨c2,rfl,w2⟩,_,b3,rfl,⟨c3,rfl,w3⟩,_,b4,rfl,⟨c4,rfl,w4⟩,rfl⟩;refine ⟨⟨c0,c1,c2,c3,c4⟩,?_,⟨w0,w1,w2,w3,w4⟩⟩;simp only [ut]
 rfl)
structure bu.WF (c:bu):Prop where
 aq: ∀a∈c.aq,RT.wf [.i .i64] a
 dJ: ∀a∈c.dJ,RT.wf [.i .i64] a
def Io:List SV->Prop:=fun vs=> ∃c:bu,vs=fR.enc c/\c.WF
theorem aml:cD Tryz.prog 41 Io:=(cD.struct (Ks:=[(Lx [.i .i64]),(Lx [.i .i64])]) Tryz.underlying41 (bk.cons (by kernel_rfl) GH (bk.cons (by kernel_rfl) GH (bk.nil))) (by kernel_rfl)).mono (by
 rintro vs ⟨_,b0,rfl,⟨c0,rfl,w0⟩,_,b1,rfl,⟨c1,rfl,w1⟩,rfl⟩;refine ⟨⟨c0,c1⟩,?_,⟨w0,w1⟩⟩;simp only [ut]
 rfl)
structure bD.WF (c:bD):Prop where
 jp:aP.WF c.jp
 kw:bu.WF c.kw
def We:List SV->Prop:=fun vs=> ∃c:bD,vs=gd.enc c/\c.WF
theorem amm:cD Tryz.prog 43 We:=(cD.struct (Ks:=[Q0,Io]) Tryz.underlying43 (bk.cons (by kernel_rfl) amk (bk.cons (by kernel_rfl) aml (bk.nil))) (by kernel_rfl)).mono (by
 rintro vs ⟨_,b0,rfl,⟨c0,rfl,w0⟩,_,b1,rfl,⟨c1,rfl,w1⟩,rfl⟩;refine ⟨⟨c0,c1⟩,?_,⟨w0,w1⟩⟩;simp only [ut]
 rfl)
theorem aqR:Tryz.prog.readableRec 43=ww/\43<Tryz.prog.types.size:=⟨by kernel_rfl,of_decide_eq_true (by kernel_rfl)⟩
theorem aqS:Tryz.prog.readableRec 58=ww/\58<Tryz.prog.types.size:=⟨by kernel_rfl,of_decide_eq_true (by kernel_rfl)⟩
theorem auL:Tryz.prog.readableRec 3=ww/\3<Tryz.prog.types.size:=⟨by kernel_rfl,of_decide_eq_true (by kernel_rfl)⟩
theorem auM:ownKnob Tryz.prog.godebug=v6:=by kernel_rfl
theorem mV {a b:Bool} (h:a=ww) (k:b=ww):(a&&b)=ww:=by rw [h,k];rfl
theorem Qk0:Rows.teditPlacesRow.wf (OpenSpec.ofChange Rows.teditPlacesSpec)=ww:=by decide+kernel
theorem Qk1:laidOutB Tryz.prog=ww:=by decide+kernel
theorem Qk2:mapsRowed Tryz.prog=ww:=by decide+kernel
theorem Qk3:Tryz.f4.params.all (Tryz.prog.readableRec ·)=ww:=by decide+kernel
theorem Qk4:namedTie Tryz.prog Rows.teditPlacesRow.named Rows.teditPlacesSpec.vars=ww:=by decide+kernel
theorem Qk5:(Rows.teditPlacesRow.stops==[])=ww:=by decide+kernel
theorem Qk6:(Tryz.prog.stops==[])=ww:=by decide+kernel
theorem Qk7:(Rows.teditPlacesRow.knobs==[])=ww:=by decide+kernel
theorem Qk8:(Tryz.prog.stopKnobs==[])=ww:=by decide+kernel
theorem Qk9:(Rows.teditPlacesRow.inPlace==Tryz.prog.inPlace 4)=ww:=by decide+kernel
theorem auN:(Rows.teditPlacesRow.unfollowed==Tryz.prog.unfollowed 4)=ww:=by decide+kernel
theorem auO:(Rows.teditPlacesRow.recurses==Tryz.prog.recurses 4)=ww:=by decide+kernel
theorem auP:(Rows.teditPlacesRow.named==Tryz.prog.varsNamed 4)=ww:=by decide+kernel
theorem auQ:(Rows.teditPlacesRow.maps==(Tryz.f4.params.toList++Rows.teditPlacesSpec.plain.varTypes Tryz.prog).any (Tryz.prog.mapsRec ·))=ww:=by decide+kernel
theorem auR:(Rows.teditPlacesRow.ifaces==(Tryz.f4.params.toList++Rows.teditPlacesSpec.plain.varTypes Tryz.prog).any (Tryz.prog.ifacesRec ·))=ww:=by decide+kernel
theorem auS:(Rows.teditPlacesRow.mapsOut==Tryz.prog.mapsAmong Tryz.f4.resultTypes.toList)=ww:=by decide+kernel
theorem auT:(Rows.teditPlacesRow.loops==(Tryz.f4.params.toList++Rows.teditPlacesSpec.plain.varTypes Tryz.prog).any (Tryz.prog.loopsFrom ·))=ww:=by decide+kernel
theorem auU:(Rows.teditPlacesRow.wideKeys==(Tryz.f4.params.toList++Rows.teditPlacesSpec.plain.varTypes Tryz.prog++Tryz.f4.resultTypes.toList).any (Tryz.prog.wideKeysFrom ·))=ww:=by decide+kernel
theorem auV:Rows.teditPlacesSpec.vars.all (Tryz.prog.varReadable ·)=ww:=by decide+kernel
theorem auW:Tryz.f4.resultTypes.all (fun t=>Tryz.prog.readableRec t&&decide (t<Tryz.prog.types.size))=ww:=by decide+kernel
theorem auX:(Rows.teditPlacesRow.ifacesOut==Tryz.f4.resultTypes.toList.any (Tryz.prog.ifacesRec ·))=ww:=by decide+kernel
theorem auY:(Rows.teditPlacesRow.loopsOut==Tryz.f4.resultTypes.toList.any (Tryz.prog.loopsFrom ·))=ww:=by decide+kernel
theorem auZ:(Rows.teditPlacesRow.plainKeys==Tryz.prog.plainKeys)=ww:=by decide+kernel
theorem au0:Rows.teditPlacesRow.shortTexts.isNone=ww:=by decide+kernel
theorem au1:Tryz.prog.stopsHeard=ww:=by decide+kernel
theorem au2:Tryz.prog.mayEnter=ww:=by decide+kernel
theorem au3:(Rows.teditPlacesRow.lifted==Tryz.prog.liftsFinal)=ww:=by decide+kernel
theorem au4:(Tryz.prog.make==some Rows.teditPlacesRow.make)=ww:=by decide+kernel
theorem au5:(Rows.teditPlacesRow.kinds==(if Rows.teditPlacesRow.domain.isEmpty then [] else Tryz.f4.params.toList.map fun t=>match Tryz.prog.underlying t with|some (.int k)=>some k|_=>v6))=ww:=by decide+kernel
theorem au6:(Rows.teditPlacesRow.pinned==Rows.teditPlacesRow.pinnedBy)=ww:=by decide+kernel
theorem au7:(Rows.teditPlacesRow.veiled==(Tryz.f4.params.toList++Rows.teditPlacesSpec.plain.varTypes Tryz.prog++Tryz.f4.resultTypes.toList).any (Tryz.prog.veiledRec ·))=ww:=by decide+kernel
theorem au8:Rows.teditPlacesRow.veiledFits Tryz.prog Tryz.f4.params.toList (Tryz.f4.params.toList++Rows.teditPlacesSpec.plain.varTypes Tryz.prog++Tryz.f4.resultTypes.toList)=ww:=by decide+kernel
set_option maxRecDepth 100000 in
theorem aer:joinedFacts Tryz.prog 4 Tryz.f4 Rows.teditPlacesSpec Rows.teditPlacesRow=ww:=(mV (mV (mV (mV (mV (mV (mV (mV (mV (mV (mV (mV (mV (mV (mV (mV (mV (mV (mV (mV (mV (mV (mV (mV (mV (mV (mV (mV (mV (mV (mV Qk0 Qk1) Qk2) Qk3) Qk4) Qk5) Qk6) Qk7) Qk8) Qk9) auN) auO) auP) auQ) auR) auS) auT) auU) auV) auW) auX) auY) auZ) au0) au1) au2) au3) au4) au5) au6) au7) au8)
set_option maxRecDepth 100000 in
theorem aes (os:Os) (started:os.Started) (H:Type) (enc:TypeId×Value->H):
 ReturnsInHanded {} Tryz.checked os 4 .any (Rows.teditPlacesSpec.pre6 enc Tryz.prog Tryz.f4 Rows.teditPlacesRow.domain false) (Rows.teditPlacesSpec.post enc Tryz.prog Tryz.f4 false ww false false):=by
 refine returnsInHanded_of_change (C:=Tryz.checked) auM started (by kernel_rfl) Tryz.func4
  (ChangeSpec.witness6 (enc:=enc) (C:=Tryz.checked) false ⟨#[],#[.agg #[.int .i64 0,.int .i64 0,.slice v6 0 0,.int .i64 0,.slice v6 0 0,.slice v6 0 0,.slice v6 0 0,.slice v6 0 0,.slice v6 0 0,.slice v6 0 0,.slice v6 0 0,.slice v6 0 0,.slice v6 0 0],.agg #[.int .i64 0,.int .i64 0,.int .i64 0],.int .i64 0],[]⟩ 16 (by kernel_rfl) (by kernel_rfl) (by kernel_rfl) (by kernel_rfl)) ?_
 intro W nR args ds gs before aqT hW Xh _;have RM: ∀(j:Nat) t v,Tryz.f4.params[j]? =some t->args[j]? =some v->Value.okWide Tryz.prog W .any nR t v:=aqT;have hW':=hW;obtain ⟨p,q,hA0,hV,rfl,SI,GK⟩:=hW;have hA:DataW.TrodAll enc Tryz.prog W 0 (fun _=>ww) ww Tryz.f4.params.toList args.toList ds p:=hA0
 rw [Tryz.params4] at hA RM;obtain ⟨v0,vs0,d0,ds0,p0,q0,kW,rfl,rfl,h0,r0⟩:=trodAll_cons hA;obtain ⟨v1,vs1,d1,ds1,p1,q1,rfl,rfl,rfl,h1,r1⟩:=trodAll_cons r0;obtain ⟨v2,vs2,d2,ds2,p2,q2,rfl,rfl,rfl,h2,r2⟩:=trodAll_cons r1;obtain ⟨rfl,rfl,rfl⟩:=trodAll_nil r2;obtain rfl:args= #[v0,v1,v2]:=by cases args;simp_all
 obtain ⟨rfl,rfl⟩:=trodVars_none hV;obtain ⟨_,g0,⟨a0,rfl,w0⟩,e0,k0⟩:=cD.aoo amm Tryz.underlying43 (RM 0 43 v0 rfl rfl) h0;obtain rfl:g0=(qH (gd.enc a0)).getD []:=by rw [e0];rfl
 obtain ⟨_,g1,⟨a1,rfl,w1⟩,e1,k1⟩:=cD.aoo Wd Tryz.underlying58 (RM 1 58 v1 rfl rfl) h1;obtain rfl:g1=(qH (RT.sv [.i .i64,.i .i64,.i .i64] a1)).getD []:=by rw [e1];rfl
 obtain ⟨a2,w2,k2⟩:=cD.as3 Tryz.underlying3 (RM 2 3 v2 rfl rfl) h2;obtain ⟨n,s,z,cq⟩:=aG.as4 aqx afd (a:=(a0,a1,a2)) (wM a0 a1 a2 (MJ.of w0.jp.ci w0.jp.aa.bv)) (ps:=[.agg ((qH (gd.enc a0)).getD []),.agg ((qH (RT.sv [.i .i64,.i .i64,.i .i64] a1)).getD []),.int .i64 a2]) rfl rfl
 refine (Ry (P:=Tryz.prog) (prims:=fun _=>ww) (TT.anU P5) (TT.W0 P5) lr cq (us:=[v0,v1,v2]) (w:=W) (.cons _ _ _ _ k0 (.cons _ _ _ _ k1 (.cons _ _ _ _ k2 (.nil))))).mono fun e W' ⟨he,hb⟩=>?_
 subst he;exact ⟨_,rfl,TN (P:=Tryz.prog) (bt:=4) Qk1 rfl rfl (by kernel_rfl) (by
  rw [Tryz.params4];intro t ht;simp only [List.mem_cons,List.not_mem_nil,or_false] at ht;rcases ht with rfl|rfl|rfl
  · exact aqR
  · exact aqS
  exact auL) hW' rfl hb⟩
theorem teditPlaces_holds:Rows.TeditPlacesSaid:=
 OpenClaim.holds_of_wide 4 Tryz.f4 rfl rfl rfl rfl rfl rfl rfl ⟨rfl,rfl,rfl,rfl,rfl⟩ rfl rfl rfl rfl rfl (by kernel_rfl) Tryz.func4 aer
  (of_decide_eq_true (by kernel_rfl)) (by unfold Func.isWrapper;first|(rw [pp (by decide+kernel)];kernel_rfl)|(rw [rc (by decide+kernel)];exact ⟨rfl,rfl⟩))
  (fun os started H enc _=>aes os started H enc)
end Go.Proofs.YtbgoiokedpjgbaaGreat
