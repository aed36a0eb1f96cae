/- The law TeditAnew returns true: its plain function gives true whatever comes in. -/
import Derived.Test.YtbgoiokedpjgbaaGreatRows
import Derived.Test.YtbgoiokedpjgbaaGreatAQS2
import Derived.Test.YtbgoiokedpjgbaaGreatAQM5
import Derived.Test.YtbgoiokedpjgbaaGreatAVm3
open List renaming append_nil->pp
open Option renaming none->rc
open Bool renaming true->ut
namespace Go.Proofs.YtbgoiokedpjgbaaGreat
open Go.ChangeShapes Go.WideShapes Go.ChangeAt Go.RowKit Go.Vm
theorem Qt:cD Tryz.prog 2 (ia [.i .i64]):=cD.int Tryz.underlying2
theorem O4:cD Tryz.prog 23 (ia [.i .i64,.i .i64]):=(cD.struct (Ks:=[(ia [.i .i64]),(ia [.i .i64])]) Tryz.underlying23 (bw.cons (by kernel_rfl) Qt (bw.cons (by kernel_rfl) Qt (bw.nil))) (by kernel_rfl)).mono (fun vs h=>nX (rs:=[[.i .i64],[.i .i64]]) h)
theorem Av:cD Tryz.prog 3 (ia [.i .i64]):=cD.int Tryz.underlying3
theorem V4:cD Tryz.prog 58 (ia [.i .i64,.i .i64,.i .i64]):=(cD.struct (Ks:=[(ia [.i .i64]),(ia [.i .i64]),(ia [.i .i64])]) Tryz.underlying58 (bw.cons (by kernel_rfl) Av (bw.cons (by kernel_rfl) Qt (bw.cons (by kernel_rfl) Qt (bw.nil)))) (by kernel_rfl)).mono (fun vs h=>nX (rs:=[[.i .i64],[.i .i64],[.i .i64]]) h)
theorem alo:cD Tryz.prog 24 (LX [.i .i64,.i .i64,.i .i64]):=cD.slice (r:=[.i .i64,.i .i64,.i .i64]) Tryz.underlying24 V4 (by kernel_rfl) (by decide)
structure Field.WF (c:Field):Prop where
 am: ∀a∈c.am,RT.wf [.i .i64,.i .i64,.i .i64] a
def Qu:List SV->Prop:=fun vs=> ∃c:Field,vs=bM.enc c/\c.WF
theorem alp:cD Tryz.prog 26 Qu:=(cD.struct (Ks:=[(LX [.i .i64,.i .i64,.i .i64])]) Tryz.underlying26 (bw.cons (by kernel_rfl) alo (bw.nil)) (by kernel_rfl)).mono (by rintro vs ⟨_,b0,rfl,⟨c0,rfl,w0⟩,rfl⟩;refine ⟨⟨c0⟩,?_,⟨w0⟩⟩;simp only [pp];rfl)
theorem adr:cD Tryz.prog 150 (ia [.i .i64,.i .i64]):=(cD.struct (Ks:=[(ia [.i .i64]),(ia [.i .i64])]) Tryz.underlying150 (bw.cons (by kernel_rfl) Av (bw.cons (by kernel_rfl) Av (bw.nil))) (by kernel_rfl)).mono (fun vs h=>nX (rs:=[[.i .i64],[.i .i64]]) h)
theorem ads:cD Tryz.prog 152 (ia [.i .i64,.i .i64,.i .i64]):=(cD.struct (Ks:=[(ia [.i .i64]),(ia [.i .i64,.i .i64])]) Tryz.underlying152 (bw.cons (by kernel_rfl) Av (bw.cons (by kernel_rfl) adr (bw.nil))) (by kernel_rfl)).mono (fun vs h=>nX (rs:=[[.i .i64],[.i .i64,.i .i64]]) h)
theorem alq:cD Tryz.prog 27 (LX [.i .i64,.i .i64,.i .i64]):=cD.slice (r:=[.i .i64,.i .i64,.i .i64]) Tryz.underlying27 ads (by kernel_rfl) (by decide)
structure bF.WF (c:bF):Prop where
 aN:RT.wf [.i .i64] c.aN
 ce: ∀a∈c.ce,RT.wf [.i .i64,.i .i64,.i .i64] a
def Qv:List SV->Prop:=fun vs=> ∃c:bF,vs=iv.enc c/\c.WF
theorem alr:cD Tryz.prog 29 Qv:=(cD.struct (Ks:=[(ia [.i .i64]),(LX [.i .i64,.i .i64,.i .i64])]) Tryz.underlying29 (bw.cons (by kernel_rfl) Av (bw.cons (by kernel_rfl) alq (bw.nil))) (by kernel_rfl)).mono (by rintro vs ⟨_,b0,rfl,⟨c0,rfl,w0⟩,_,b1,rfl,⟨c1,rfl,w1⟩,rfl⟩;refine ⟨⟨c0,c1⟩,?_,⟨w0,w1⟩⟩;simp only [pp];rfl)
theorem Hh:cD Tryz.prog 30 (LX [.i .i64]):=cD.slice (r:=[.i .i64]) Tryz.underlying30 Av (by kernel_rfl) (by decide)
theorem api:cD Tryz.prog 4 (ia [.b]):=cD.bool Tryz.underlying4
theorem als:cD Tryz.prog 31 (LX [.b]):=cD.slice (r:=[.b]) Tryz.underlying31 api (by kernel_rfl) (by decide)
structure bj.WF (c:bj):Prop where
 aB: ∀a∈c.aB,RT.wf [.i .i64] a
 be: ∀a∈c.be,RT.wf [.b] a
 bi: ∀a∈c.bi,RT.wf [.i .i64] a
def Qw:List SV->Prop:=fun vs=> ∃c:bj,vs=gD.enc c/\c.WF
theorem alu:cD Tryz.prog 33 Qw:=(cD.struct (Ks:=[(LX [.i .i64]),(LX [.b]),(LX [.i .i64])]) Tryz.underlying33 (bw.cons (by kernel_rfl) Hh (bw.cons (by kernel_rfl) als (bw.cons (by kernel_rfl) Hh (bw.nil)))) (by kernel_rfl)).mono (by rintro vs ⟨_,b0,rfl,⟨c0,rfl,w0⟩,_,b1,rfl,⟨c1,rfl,w1⟩,_,b2,rfl,⟨c2,rfl,w2⟩,rfl⟩;refine ⟨⟨c0,c1,c2⟩,?_,⟨w0,w1,w2⟩⟩;simp only [pp];rfl)
theorem Qx:cD Tryz.prog 142 (ia [.i .i64,.i .i64]):=(cD.struct (Ks:=[(ia [.i .i64]),(ia [.i .i64])]) Tryz.underlying142 (bw.cons (by kernel_rfl) Av (bw.cons (by kernel_rfl) Av (bw.nil))) (by kernel_rfl)).mono (fun vs h=>nX (rs:=[[.i .i64],[.i .i64]]) h)
theorem adt:cD Tryz.prog 156 (ia [.i .i64,.i .i64,.i .i64,.i .i64,.i .i64]):=(cD.struct (Ks:=[(ia [.i .i64,.i .i64]),(ia [.i .i64]),(ia [.i .i64,.i .i64])]) Tryz.underlying156 (bw.cons (by kernel_rfl) O4 (bw.cons (by kernel_rfl) Av (bw.cons (by kernel_rfl) Qx (bw.nil)))) (by kernel_rfl)).mono (fun vs h=>nX (rs:=[[.i .i64,.i .i64],[.i .i64],[.i .i64,.i .i64]]) h)
theorem alv:cD Tryz.prog 34 (LX [.i .i64,.i .i64,.i .i64,.i .i64,.i .i64]):=cD.slice (r:=[.i .i64,.i .i64,.i .i64,.i .i64,.i .i64]) Tryz.underlying34 adt (by kernel_rfl) (by decide)
structure aJ.WF (c:aJ):Prop where
 af:bj.WF c.af
 bv: ∀a∈c.bv,RT.wf [.i .i64,.i .i64,.i .i64,.i .i64,.i .i64] a
 ar: ∀a∈c.ar,RT.wf [.i .i64] a
def M4:List SV->Prop:=fun vs=> ∃c:aJ,vs=dz.enc c/\c.WF
theorem alw:cD Tryz.prog 36 M4:=(cD.struct (Ks:=[Qw,(LX [.i .i64,.i .i64,.i .i64,.i .i64,.i .i64]),(LX [.i .i64])]) Tryz.underlying36 (bw.cons (by kernel_rfl) alu (bw.cons (by kernel_rfl) alv (bw.cons (by kernel_rfl) Hh (bw.nil)))) (by kernel_rfl)).mono (by rintro vs ⟨_,b0,rfl,⟨c0,rfl,w0⟩,_,b1,rfl,⟨c1,rfl,w1⟩,_,b2,rfl,⟨c2,rfl,w2⟩,rfl⟩;refine ⟨⟨c0,c1,c2⟩,?_,⟨w0,w1,w2⟩⟩;simp only [pp];rfl)
theorem adu:cD Tryz.prog 144 (ia [.i .i64,.i .i64,.i .i64]):=(cD.struct (Ks:=[(ia [.i .i64]),(ia [.i .i64,.i .i64])]) Tryz.underlying144 (bw.cons (by kernel_rfl) Av (bw.cons (by kernel_rfl) Qx (bw.nil))) (by kernel_rfl)).mono (fun vs h=>nX (rs:=[[.i .i64],[.i .i64,.i .i64]]) h)
theorem alx:cD Tryz.prog 37 (LX [.i .i64,.i .i64,.i .i64]):=cD.slice (r:=[.i .i64,.i .i64,.i .i64]) Tryz.underlying37 adu (by kernel_rfl) (by decide)
structure aK.WF (c:aK):Prop where
 ci:RT.wf [.i .i64,.i .i64] c.ci
 ii:Field.WF c.ii
 ai:bF.WF c.ai
 ae:aJ.WF c.ae
 io: ∀a∈c.io,RT.wf [.i .i64,.i .i64,.i .i64] a
def Qy:List SV->Prop:=fun vs=> ∃c:aK,vs=bQ.enc c/\c.WF
theorem aly:cD Tryz.prog 39 Qy:=(cD.struct (Ks:=[(ia [.i .i64,.i .i64]),Qu,Qv,M4,(LX [.i .i64,.i .i64,.i .i64])]) Tryz.underlying39 (bw.cons (by kernel_rfl) O4 (bw.cons (by kernel_rfl) alp (bw.cons (by kernel_rfl) alr (bw.cons (by kernel_rfl) alw (bw.cons (by kernel_rfl) alx (bw.nil)))))) (by kernel_rfl)).mono (by
 rintro vs ⟨_,b0,rfl,⟨c0,rfl,w0⟩,_,b1,rfl,⟨c1,rfl,w1⟩,_,b2,rfl,⟨c2,rfl,w2⟩,_,b3,rfl,⟨c3,rfl,w3⟩,_,b4,rfl,⟨c4,rfl,w4⟩,rfl⟩;refine ⟨⟨c0,c1,c2,c3,c4⟩,?_,⟨w0,w1,w2,w3,w4⟩⟩;simp only [pp];rfl)
structure bo.WF (c:bo):Prop where
 aL: ∀a∈c.aL,RT.wf [.i .i64] a
 gE: ∀a∈c.gE,RT.wf [.i .i64] a
def I3:List SV->Prop:=fun vs=> ∃c:bo,vs=gd.enc c/\c.WF
theorem alz:cD Tryz.prog 41 I3:=(cD.struct (Ks:=[(LX [.i .i64]),(LX [.i .i64])]) Tryz.underlying41 (bw.cons (by kernel_rfl) Hh (bw.cons (by kernel_rfl) Hh (bw.nil))) (by kernel_rfl)).mono (by rintro vs ⟨_,b0,rfl,⟨c0,rfl,w0⟩,_,b1,rfl,⟨c1,rfl,w1⟩,rfl⟩;refine ⟨⟨c0,c1⟩,?_,⟨w0,w1⟩⟩;simp only [pp];rfl)
structure bk.WF (c:bk):Prop where
 jp:aK.WF c.jp
 kw:bo.WF c.kw
def V5:List SV->Prop:=fun vs=> ∃c:bk,vs=eB.enc c/\c.WF
theorem alA:cD Tryz.prog 43 V5:=(cD.struct (Ks:=[Qy,I3]) Tryz.underlying43 (bw.cons (by kernel_rfl) aly (bw.cons (by kernel_rfl) alz (bw.nil))) (by kernel_rfl)).mono (by rintro vs ⟨_,b0,rfl,⟨c0,rfl,w0⟩,_,b1,rfl,⟨c1,rfl,w1⟩,rfl⟩;refine ⟨⟨c0,c1⟩,?_,⟨w0,w1⟩⟩;simp only [pp];rfl)
theorem apj:Tryz.prog.readableRec 43=ut/\43<Tryz.prog.types.size:=⟨by kernel_rfl,of_decide_eq_true (by kernel_rfl)⟩
theorem apk:Tryz.prog.readableRec 58=ut/\58<Tryz.prog.types.size:=⟨by kernel_rfl,of_decide_eq_true (by kernel_rfl)⟩
theorem auF:Tryz.prog.readableRec 3=ut/\3<Tryz.prog.types.size:=⟨by kernel_rfl,of_decide_eq_true (by kernel_rfl)⟩
theorem apl:Tryz.prog.readableRec 23=ut/\23<Tryz.prog.types.size:=⟨by kernel_rfl,of_decide_eq_true (by kernel_rfl)⟩
theorem auG:ownKnob Tryz.prog.godebug=rc:=by kernel_rfl
theorem nN {a b:Bool} (h:a=ut) (k:b=ut):(a&&b)=ut:=by rw [h,k];rfl
theorem Qk0:Rows.teditAnewRow.wf (OpenSpec.ofChange Rows.teditAnewSpec)=ut:=by decide+kernel
theorem Qk1:laidOutB Tryz.prog=ut:=by decide+kernel
theorem Qk2:mapsRowed Tryz.prog=ut:=by decide+kernel
theorem Qk3:Tryz.f7.params.all (Tryz.prog.readableRec ·)=ut:=by decide+kernel
theorem Qk4:namedTie Tryz.prog Rows.teditAnewRow.named Rows.teditAnewSpec.vars=ut:=by decide+kernel
theorem Qk5:(Rows.teditAnewRow.stops==[])=ut:=by decide+kernel
theorem Qk6:(Tryz.prog.stops==[])=ut:=by decide+kernel
theorem Qk7:(Rows.teditAnewRow.knobs==[])=ut:=by decide+kernel
theorem Qk8:(Tryz.prog.stopKnobs==[])=ut:=by decide+kernel
theorem Qk9:(Rows.teditAnewRow.inPlace==Tryz.prog.inPlace 7)=ut:=by decide+kernel
theorem auH:(Rows.teditAnewRow.unfollowed==Tryz.prog.unfollowed 7)=ut:=by decide+kernel
theorem auI:(Rows.teditAnewRow.recurses==Tryz.prog.recurses 7)=ut:=by decide+kernel
theorem auJ:(Rows.teditAnewRow.named==Tryz.prog.varsNamed 7)=ut:=by decide+kernel
theorem auK:(Rows.teditAnewRow.maps==(Tryz.f7.params.toList++Rows.teditAnewSpec.plain.varTypes Tryz.prog).any (Tryz.prog.mapsRec ·))=ut:=by decide+kernel
theorem auL:(Rows.teditAnewRow.ifaces==(Tryz.f7.params.toList++Rows.teditAnewSpec.plain.varTypes Tryz.prog).any (Tryz.prog.ifacesRec ·))=ut:=by decide+kernel
theorem auM:(Rows.teditAnewRow.mapsOut==Tryz.prog.mapsAmong Tryz.f7.resultTypes.toList)=ut:=by decide+kernel
theorem auN:(Rows.teditAnewRow.loops==(Tryz.f7.params.toList++Rows.teditAnewSpec.plain.varTypes Tryz.prog).any (Tryz.prog.loopsFrom ·))=ut:=by decide+kernel
theorem auO:(Rows.teditAnewRow.wideKeys==(Tryz.f7.params.toList++Rows.teditAnewSpec.plain.varTypes Tryz.prog++Tryz.f7.resultTypes.toList).any (Tryz.prog.wideKeysFrom ·))=ut:=by decide+kernel
theorem auP:Rows.teditAnewSpec.vars.all (Tryz.prog.varReadable ·)=ut:=by decide+kernel
theorem auQ:Tryz.f7.resultTypes.all (fun t=>Tryz.prog.readableRec t&&decide (t<Tryz.prog.types.size))=ut:=by decide+kernel
theorem auR:(Rows.teditAnewRow.ifacesOut==Tryz.f7.resultTypes.toList.any (Tryz.prog.ifacesRec ·))=ut:=by decide+kernel
theorem auS:(Rows.teditAnewRow.loopsOut==Tryz.f7.resultTypes.toList.any (Tryz.prog.loopsFrom ·))=ut:=by decide+kernel
theorem auT:(Rows.teditAnewRow.plainKeys==Tryz.prog.plainKeys)=ut:=by decide+kernel
theorem auU:Rows.teditAnewRow.shortTexts.isNone=ut:=by decide+kernel
theorem auV:Tryz.prog.stopsHeard=ut:=by decide+kernel
theorem auW:Tryz.prog.mayEnter=ut:=by decide+kernel
theorem auX:(Rows.teditAnewRow.lifted==Tryz.prog.liftsFinal)=ut:=by decide+kernel
theorem auY:(Tryz.prog.make==some Rows.teditAnewRow.make)=ut:=by decide+kernel
theorem auZ:(Rows.teditAnewRow.kinds==(if Rows.teditAnewRow.domain.isEmpty then [] else Tryz.f7.params.toList.map fun t=>match Tryz.prog.underlying t with|some (.int k)=>some k|_=>rc))=ut:=by decide+kernel
theorem au0:(Rows.teditAnewRow.pinned==Rows.teditAnewRow.pinnedBy)=ut:=by decide+kernel
theorem au1:(Rows.teditAnewRow.veiled==(Tryz.f7.params.toList++Rows.teditAnewSpec.plain.varTypes Tryz.prog++Tryz.f7.resultTypes.toList).any (Tryz.prog.veiledRec ·))=ut:=by decide+kernel
theorem au2:Rows.teditAnewRow.veiledFits Tryz.prog Tryz.f7.params.toList (Tryz.f7.params.toList++Rows.teditAnewSpec.plain.varTypes Tryz.prog++Tryz.f7.resultTypes.toList)=ut:=by decide+kernel
set_option maxRecDepth 100000 in
theorem adw:joinedFacts Tryz.prog 7 Tryz.f7 Rows.teditAnewSpec Rows.teditAnewRow=ut:=(nN (nN (nN (nN (nN (nN (nN (nN (nN (nN (nN (nN (nN (nN (nN (nN (nN (nN (nN (nN (nN (nN (nN (nN (nN (nN (nN (nN (nN (nN (nN Qk0 Qk1) Qk2) Qk3) Qk4) Qk5) Qk6) Qk7) Qk8) Qk9) auH) auI) auJ) auK) auL) auM) auN) auO) auP) auQ) auR) auS) auT) auU) auV) auW) auX) auY) auZ) au0) au1) au2)
set_option maxRecDepth 100000 in
theorem adx (os:Os) (started:os.Started) (H:Type) (enc:TypeId×Value->H):
 ReturnsInHanded {} Tryz.checked os 7 .any (Rows.teditAnewSpec.pre6 enc Tryz.prog Tryz.f7 Rows.teditAnewRow.domain false) (Rows.teditAnewSpec.post enc Tryz.prog Tryz.f7 false ut false false):=by
 refine returnsInHanded_of_change (C:=Tryz.checked) auG started (by kernel_rfl) Tryz.func7
  (ChangeSpec.witness6 (enc:=enc) (C:=Tryz.checked) false ⟨#[],#[.agg #[.int .i64 0,.int .i64 0,.slice rc 0 0,.int .i64 0,.slice rc 0 0,.slice rc 0 0,.slice rc 0 0,.slice rc 0 0,.slice rc 0 0,.slice rc 0 0,.slice rc 0 0,.slice rc 0 0,.slice rc 0 0],.agg #[.int .i64 0,.int .i64 0,.int .i64 0],.int .i64 0,.agg #[.int .i64 0,.int .i64 0]],[]⟩ 16 (by kernel_rfl) (by kernel_rfl) (by kernel_rfl) (by kernel_rfl)) ?_
 intro W oE args ds gs before apm hW W8 _;have N2: ∀(j:Nat) t v,Tryz.f7.params[j]? =some t->args[j]? =some v->Value.okWide Tryz.prog W .any oE t v:=apm;have hW':=hW;obtain ⟨p,q,hA0,hV,rfl,Sl,Hk⟩:=hW;have hA:DataW.TrodAll enc Tryz.prog W 0 (fun _=>ut) ut Tryz.f7.params.toList args.toList ds p:=hA0;rw [Tryz.params7] at hA N2;obtain ⟨v0,vs0,d0,ds0,p0,q0,lF,rfl,rfl,h0,r0⟩:=trodAll_cons hA;obtain ⟨v1,vs1,d1,ds1,p1,q1,rfl,rfl,rfl,h1,r1⟩:=trodAll_cons r0;obtain ⟨v2,vs2,d2,ds2,p2,q2,rfl,rfl,rfl,h2,r2⟩:=trodAll_cons r1;obtain ⟨v3,vs3,d3,ds3,p3,q3,rfl,rfl,rfl,h3,r3⟩:=trodAll_cons r2;obtain ⟨rfl,rfl,rfl⟩:=trodAll_nil r3;obtain rfl:args= #[v0,v1,v2,v3]:=by cases args;simp_all
 obtain ⟨rfl,rfl⟩:=trodVars_none hV;obtain ⟨_,g0,⟨a0,rfl,w0⟩,e0,k0⟩:=cD.afy alA Tryz.underlying43 (N2 0 43 v0 rfl rfl) h0;obtain rfl:g0=(qJ (eB.enc a0)).getD []:=by rw [e0];rfl
 obtain ⟨_,g1,⟨a1,rfl,w1⟩,e1,k1⟩:=cD.afy V4 Tryz.underlying58 (N2 1 58 v1 rfl rfl) h1;obtain rfl:g1=(qJ (RT.sv [.i .i64,.i .i64,.i .i64] a1)).getD []:=by rw [e1];rfl
 obtain ⟨a2,w2,k2⟩:=cD.arM Tryz.underlying3 (N2 2 3 v2 rfl rfl) h2;obtain ⟨_,g3,⟨a3,rfl,w3⟩,e3,k3⟩:=cD.afy O4 Tryz.underlying23 (N2 3 23 v3 rfl rfl) h3;obtain rfl:g3=(qJ (RT.sv [.i .i64,.i .i64] a3)).getD []:=by rw [e3];rfl
 obtain ⟨n,s,z,cB⟩:=dM.arN c7.ok aek (a:=(a0,a1,a2,a3)) (za a0 a1 a2 a3 (MF.of w0.jp.ci w0.jp.ae.bv) ⟨wf_i64 w3.1,wf_i64 w3.2⟩) (ps:=[.agg ((qJ (eB.enc a0)).getD []),.agg ((qJ (RT.sv [.i .i64,.i .i64,.i .i64] a1)).getD []),.int .i64 a2,.agg ((qJ (RT.sv [.i .i64,.i .i64] a3)).getD [])]) rfl rfl;refine (Q6 (P:=Tryz.prog) (prims:=fun _=>ut) (TT.am4 PY) (TT.WQ PY) lU cB (us:=[v0,v1,v2,v3]) (w:=W) (.cons _ _ _ _ k0 (.cons _ _ _ _ k1 (.cons _ _ _ _ k2 (.cons _ _ _ _ k3 (.nil)))))).mono fun e W' ⟨he,hb⟩=>?_
 subst he;exact ⟨_,rfl,Tu (P:=Tryz.prog) (bt:=4) Qk1 rfl rfl (by kernel_rfl) (by
  rw [Tryz.params7];intro t ht;simp only [List.mem_cons,List.not_mem_nil,or_false] at ht;rcases ht with rfl|rfl|rfl|rfl
  · exact apj
  · exact apk
  · exact auF
  exact apl) hW' rfl hb⟩
theorem teditAnew_holds:Rows.TeditAnewSaid:=
 OpenClaim.holds_of_wide 7 Tryz.f7 rfl rfl rfl rfl rfl rfl rfl ⟨rfl,rfl,rfl,rfl,rfl⟩ rfl rfl rfl rfl rfl (by kernel_rfl) Tryz.func7 adw
  (of_decide_eq_true (by kernel_rfl)) (by unfold Func.isWrapper;first|(rw [ls (by decide+kernel)];kernel_rfl)|(rw [lw (by decide+kernel)];exact ⟨rfl,rfl⟩))
  (fun os started H enc _=>adx os started H enc)
end Go.Proofs.YtbgoiokedpjgbaaGreat
