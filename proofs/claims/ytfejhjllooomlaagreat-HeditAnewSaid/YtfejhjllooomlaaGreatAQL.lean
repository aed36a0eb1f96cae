/- The law HeditAnew returns true: its plain function gives true whatever comes in. -/
import Derived.Test.YtfejhjllooomlaaGreatRows
import Derived.Test.YtfejhjllooomlaaGreatAQS2
import Derived.Test.YtfejhjllooomlaaGreatAQM4
import Derived.Test.YtfejhjllooomlaaGreatAVm3
open List renaming append_nil->lw
open Option renaming none->rc
open Bool renaming true->ut
namespace Go.Proofs.YtfejhjllooomlaaGreat
open Go.ChangeShapes Go.WideShapes Go.ChangeAt Go.RowKit Go.Vm
theorem Po:cE Tryz.prog 2 (ij [.i .i64]):=cE.int Tryz.underlying2
theorem NU:cE Tryz.prog 23 (ij [.i .i64,.i .i64]):=(cE.struct (Ks:=[(ij [.i .i64]),(ij [.i .i64])]) Tryz.underlying23 (bw.cons (by kernel_rfl) Po (bw.cons (by kernel_rfl) Po (bw.nil))) (by kernel_rfl)).mono (fun vs h=>nO (rs:=[[.i .i64],[.i .i64]]) h)
theorem Aa:cE Tryz.prog 3 (ij [.i .i64]):=cE.int Tryz.underlying3
theorem UA:cE Tryz.prog 76 (ij [.i .i64,.i .i64,.i .i64]):=(cE.struct (Ks:=[(ij [.i .i64]),(ij [.i .i64]),(ij [.i .i64])]) Tryz.underlying76 (bw.cons (by kernel_rfl) Aa (bw.cons (by kernel_rfl) Po (bw.cons (by kernel_rfl) Po (bw.nil)))) (by kernel_rfl)).mono (fun vs h=>nO (rs:=[[.i .i64],[.i .i64],[.i .i64]]) h)
theorem ai4:cE Tryz.prog 24 (L5 [.i .i64,.i .i64,.i .i64]):=cE.slice (r:=[.i .i64,.i .i64,.i .i64]) Tryz.underlying24 UA (by kernel_rfl) (by decide)
structure Field.WF (c:Field):Prop where
 am: ∀a∈c.am,RT.wf [.i .i64,.i .i64,.i .i64] a
def Pp:List SV->Prop:=fun vs=> ∃c:Field,vs=bY.enc c/\c.WF
theorem ai5:cE Tryz.prog 26 Pp:=(cE.struct (Ks:=[(L5 [.i .i64,.i .i64,.i .i64])]) Tryz.underlying26 (bw.cons (by kernel_rfl) ai4 (bw.nil)) (by kernel_rfl)).mono (by rintro vs ⟨_,b0,rfl,⟨c0,rfl,w0⟩,rfl⟩;refine ⟨⟨c0⟩,?_,⟨w0⟩⟩;simp only [lw];rfl)
theorem ai6:cE Tryz.prog 71 (ij [.i .i64,.i .i64]):=(cE.struct (Ks:=[(ij [.i .i64]),(ij [.i .i64])]) Tryz.underlying71 (bw.cons (by kernel_rfl) Aa (bw.cons (by kernel_rfl) Aa (bw.nil))) (by kernel_rfl)).mono (fun vs h=>nO (rs:=[[.i .i64],[.i .i64]]) h)
theorem abB:cE Tryz.prog 156 (ij [.i .i64,.i .i64,.i .i64]):=(cE.struct (Ks:=[(ij [.i .i64]),(ij [.i .i64,.i .i64])]) Tryz.underlying156 (bw.cons (by kernel_rfl) Aa (bw.cons (by kernel_rfl) ai6 (bw.nil))) (by kernel_rfl)).mono (fun vs h=>nO (rs:=[[.i .i64],[.i .i64,.i .i64]]) h)
theorem ai7:cE Tryz.prog 27 (L5 [.i .i64,.i .i64,.i .i64]):=cE.slice (r:=[.i .i64,.i .i64,.i .i64]) Tryz.underlying27 abB (by kernel_rfl) (by decide)
structure bj.WF (c:bj):Prop where
 aK:RT.wf [.i .i64] c.aK
 ce: ∀a∈c.ce,RT.wf [.i .i64,.i .i64,.i .i64] a
def Pq:List SV->Prop:=fun vs=> ∃c:bj,vs=g8.enc c/\c.WF
theorem ai8:cE Tryz.prog 29 Pq:=(cE.struct (Ks:=[(ij [.i .i64]),(L5 [.i .i64,.i .i64,.i .i64])]) Tryz.underlying29 (bw.cons (by kernel_rfl) Aa (bw.cons (by kernel_rfl) ai7 (bw.nil))) (by kernel_rfl)).mono (by rintro vs ⟨_,b0,rfl,⟨c0,rfl,w0⟩,_,b1,rfl,⟨c1,rfl,w1⟩,rfl⟩;refine ⟨⟨c0,c1⟩,?_,⟨w0,w1⟩⟩;simp only [lw];rfl)
theorem JB:cE Tryz.prog 30 (L5 [.i .i64]):=cE.slice (r:=[.i .i64]) Tryz.underlying30 Aa (by kernel_rfl) (by decide)
theorem anj:cE Tryz.prog 4 (ij [.b]):=cE.bool Tryz.underlying4
theorem ai9:cE Tryz.prog 31 (L5 [.b]):=cE.slice (r:=[.b]) Tryz.underlying31 anj (by kernel_rfl) (by decide)
structure aQ.WF (c:aQ):Prop where
 ay: ∀a∈c.ay,RT.wf [.i .i64] a
 be: ∀a∈c.be,RT.wf [.b] a
 bi: ∀a∈c.bi,RT.wf [.i .i64] a
def Pr:List SV->Prop:=fun vs=> ∃c:aQ,vs=gq.enc c/\c.WF
theorem ai':cE Tryz.prog 33 Pr:=(cE.struct (Ks:=[(L5 [.i .i64]),(L5 [.b]),(L5 [.i .i64])]) Tryz.underlying33 (bw.cons (by kernel_rfl) JB (bw.cons (by kernel_rfl) ai9 (bw.cons (by kernel_rfl) JB (bw.nil)))) (by kernel_rfl)).mono (by rintro vs ⟨_,b0,rfl,⟨c0,rfl,w0⟩,_,b1,rfl,⟨c1,rfl,w1⟩,_,b2,rfl,⟨c2,rfl,w2⟩,rfl⟩;refine ⟨⟨c0,c1,c2⟩,?_,⟨w0,w1,w2⟩⟩;simp only [lw];rfl)
theorem Ps:cE Tryz.prog 126 (ij [.i .i64,.i .i64]):=(cE.struct (Ks:=[(ij [.i .i64]),(ij [.i .i64])]) Tryz.underlying126 (bw.cons (by kernel_rfl) Aa (bw.cons (by kernel_rfl) Aa (bw.nil))) (by kernel_rfl)).mono (fun vs h=>nO (rs:=[[.i .i64],[.i .i64]]) h)
theorem abC:cE Tryz.prog 128 (ij [.i .i64,.i .i64,.i .i64,.i .i64,.i .i64]):=(cE.struct (Ks:=[(ij [.i .i64,.i .i64]),(ij [.i .i64]),(ij [.i .i64,.i .i64])]) Tryz.underlying128 (bw.cons (by kernel_rfl) NU (bw.cons (by kernel_rfl) Aa (bw.cons (by kernel_rfl) Ps (bw.nil)))) (by kernel_rfl)).mono (fun vs h=>nO (rs:=[[.i .i64,.i .i64],[.i .i64],[.i .i64,.i .i64]]) h)
theorem aja:cE Tryz.prog 34 (L5 [.i .i64,.i .i64,.i .i64,.i .i64,.i .i64]):=cE.slice (r:=[.i .i64,.i .i64,.i .i64,.i .i64,.i .i64]) Tryz.underlying34 abC (by kernel_rfl) (by decide)
structure aI.WF (c:aI):Prop where
 af:aQ.WF c.af
 bv: ∀a∈c.bv,RT.wf [.i .i64,.i .i64,.i .i64,.i .i64,.i .i64] a
 aj: ∀a∈c.aj,RT.wf [.i .i64] a
def LU:List SV->Prop:=fun vs=> ∃c:aI,vs=cY.enc c/\c.WF
theorem ajb:cE Tryz.prog 36 LU:=(cE.struct (Ks:=[Pr,(L5 [.i .i64,.i .i64,.i .i64,.i .i64,.i .i64]),(L5 [.i .i64])]) Tryz.underlying36 (bw.cons (by kernel_rfl) ai' (bw.cons (by kernel_rfl) aja (bw.cons (by kernel_rfl) JB (bw.nil)))) (by kernel_rfl)).mono (by rintro vs ⟨_,b0,rfl,⟨c0,rfl,w0⟩,_,b1,rfl,⟨c1,rfl,w1⟩,_,b2,rfl,⟨c2,rfl,w2⟩,rfl⟩;refine ⟨⟨c0,c1,c2⟩,?_,⟨w0,w1,w2⟩⟩;simp only [lw];rfl)
theorem abD:cE Tryz.prog 160 (ij [.i .i64,.i .i64,.i .i64]):=(cE.struct (Ks:=[(ij [.i .i64]),(ij [.i .i64,.i .i64])]) Tryz.underlying160 (bw.cons (by kernel_rfl) Aa (bw.cons (by kernel_rfl) Ps (bw.nil))) (by kernel_rfl)).mono (fun vs h=>nO (rs:=[[.i .i64],[.i .i64,.i .i64]]) h)
theorem ajc:cE Tryz.prog 37 (L5 [.i .i64,.i .i64,.i .i64]):=cE.slice (r:=[.i .i64,.i .i64,.i .i64]) Tryz.underlying37 abD (by kernel_rfl) (by decide)
structure aH.WF (c:aH):Prop where
 ci:RT.wf [.i .i64,.i .i64] c.ci
 ii:Field.WF c.ii
 ai:bj.WF c.ai
 aa:aI.WF c.aa
 io: ∀a∈c.io,RT.wf [.i .i64,.i .i64,.i .i64] a
def Pu:List SV->Prop:=fun vs=> ∃c:aH,vs=bK.enc c/\c.WF
theorem ajd:cE Tryz.prog 39 Pu:=(cE.struct (Ks:=[(ij [.i .i64,.i .i64]),Pp,Pq,LU,(L5 [.i .i64,.i .i64,.i .i64])]) Tryz.underlying39 (bw.cons (by kernel_rfl) NU (bw.cons (by kernel_rfl) ai5 (bw.cons (by kernel_rfl) ai8 (bw.cons (by kernel_rfl) ajb (bw.cons (by kernel_rfl) ajc (bw.nil)))))) (by kernel_rfl)).mono (by
 rintro vs ⟨_,b0,rfl,⟨c0,rfl,w0⟩,_,b1,rfl,⟨c1,rfl,w1⟩,_,b2,rfl,⟨c2,rfl,w2⟩,_,b3,rfl,⟨c3,rfl,w3⟩,_,b4,rfl,⟨c4,rfl,w4⟩,rfl⟩;refine ⟨⟨c0,c1,c2,c3,c4⟩,?_,⟨w0,w1,w2,w3,w4⟩⟩;simp only [lw];rfl)
structure bg.WF (c:bg):Prop where
 jp:aH.WF c.jp
 bv: ∀a∈c.bv,RT.wf [.i .i64] a
def abE:List SV->Prop:=fun vs=> ∃c:bg,vs=fc.enc c/\c.WF
theorem aje:cE Tryz.prog 41 abE:=(cE.struct (Ks:=[Pu,(L5 [.i .i64])]) Tryz.underlying41 (bw.cons (by kernel_rfl) ajd (bw.cons (by kernel_rfl) JB (bw.nil))) (by kernel_rfl)).mono (by rintro vs ⟨_,b0,rfl,⟨c0,rfl,w0⟩,_,b1,rfl,⟨c1,rfl,w1⟩,rfl⟩;refine ⟨⟨c0,c1⟩,?_,⟨w0,w1⟩⟩;simp only [lw];rfl)
theorem ank:Tryz.prog.readableRec 41=ut/\41<Tryz.prog.types.size:=⟨by kernel_rfl,of_decide_eq_true (by kernel_rfl)⟩
theorem anl:Tryz.prog.readableRec 76=ut/\76<Tryz.prog.types.size:=⟨by kernel_rfl,of_decide_eq_true (by kernel_rfl)⟩
theorem asH:Tryz.prog.readableRec 3=ut/\3<Tryz.prog.types.size:=⟨by kernel_rfl,of_decide_eq_true (by kernel_rfl)⟩
theorem anm:Tryz.prog.readableRec 23=ut/\23<Tryz.prog.types.size:=⟨by kernel_rfl,of_decide_eq_true (by kernel_rfl)⟩
theorem asI:ownKnob Tryz.prog.godebug=rc:=by kernel_rfl
theorem nD {a b:Bool} (h:a=ut) (k:b=ut):(a&&b)=ut:=by rw [h,k];rfl
theorem Qk0:Rows.heditAnewRow.wf (OpenSpec.ofChange Rows.heditAnewSpec)=ut:=by decide+kernel
theorem Qk1:laidOutB Tryz.prog=ut:=by decide+kernel
theorem Qk2:mapsRowed Tryz.prog=ut:=by decide+kernel
theorem Qk3:Tryz.f9.params.all (Tryz.prog.readableRec ·)=ut:=by decide+kernel
theorem Qk4:namedTie Tryz.prog Rows.heditAnewRow.named Rows.heditAnewSpec.vars=ut:=by decide+kernel
theorem Qk5:(Rows.heditAnewRow.stops==[])=ut:=by decide+kernel
theorem Qk6:(Tryz.prog.stops==[])=ut:=by decide+kernel
theorem Qk7:(Rows.heditAnewRow.knobs==[])=ut:=by decide+kernel
theorem Qk8:(Tryz.prog.stopKnobs==[])=ut:=by decide+kernel
theorem Qk9:(Rows.heditAnewRow.inPlace==Tryz.prog.inPlace 9)=ut:=by decide+kernel
theorem asJ:(Rows.heditAnewRow.unfollowed==Tryz.prog.unfollowed 9)=ut:=by decide+kernel
theorem asK:(Rows.heditAnewRow.recurses==Tryz.prog.recurses 9)=ut:=by decide+kernel
theorem asL:(Rows.heditAnewRow.named==Tryz.prog.varsNamed 9)=ut:=by decide+kernel
theorem asM:(Rows.heditAnewRow.maps==(Tryz.f9.params.toList++Rows.heditAnewSpec.plain.varTypes Tryz.prog).any (Tryz.prog.mapsRec ·))=ut:=by decide+kernel
theorem asN:(Rows.heditAnewRow.ifaces==(Tryz.f9.params.toList++Rows.heditAnewSpec.plain.varTypes Tryz.prog).any (Tryz.prog.ifacesRec ·))=ut:=by decide+kernel
theorem asO:(Rows.heditAnewRow.mapsOut==Tryz.prog.mapsAmong Tryz.f9.resultTypes.toList)=ut:=by decide+kernel
theorem asP:(Rows.heditAnewRow.loops==(Tryz.f9.params.toList++Rows.heditAnewSpec.plain.varTypes Tryz.prog).any (Tryz.prog.loopsFrom ·))=ut:=by decide+kernel
theorem asQ:(Rows.heditAnewRow.wideKeys==(Tryz.f9.params.toList++Rows.heditAnewSpec.plain.varTypes Tryz.prog++Tryz.f9.resultTypes.toList).any (Tryz.prog.wideKeysFrom ·))=ut:=by decide+kernel
theorem asR:Rows.heditAnewSpec.vars.all (Tryz.prog.varReadable ·)=ut:=by decide+kernel
theorem asS:Tryz.f9.resultTypes.all (fun t=>Tryz.prog.readableRec t&&decide (t<Tryz.prog.types.size))=ut:=by decide+kernel
theorem asT:(Rows.heditAnewRow.ifacesOut==Tryz.f9.resultTypes.toList.any (Tryz.prog.ifacesRec ·))=ut:=by decide+kernel
theorem asU:(Rows.heditAnewRow.loopsOut==Tryz.f9.resultTypes.toList.any (Tryz.prog.loopsFrom ·))=ut:=by decide+kernel
theorem asV:(Rows.heditAnewRow.plainKeys==Tryz.prog.plainKeys)=ut:=by decide+kernel
theorem asW:Rows.heditAnewRow.shortTexts.isNone=ut:=by decide+kernel
theorem asX:Tryz.prog.stopsHeard=ut:=by decide+kernel
theorem asY:Tryz.prog.mayEnter=ut:=by decide+kernel
theorem asZ:(Rows.heditAnewRow.lifted==Tryz.prog.liftsFinal)=ut:=by decide+kernel
theorem as0:(Tryz.prog.make==some Rows.heditAnewRow.make)=ut:=by decide+kernel
theorem as1:(Rows.heditAnewRow.kinds==(if Rows.heditAnewRow.domain.isEmpty then [] else Tryz.f9.params.toList.map fun t=>match Tryz.prog.underlying t with|some (.int k)=>some k|_=>rc))=ut:=by decide+kernel
theorem as2:(Rows.heditAnewRow.pinned==Rows.heditAnewRow.pinnedBy)=ut:=by decide+kernel
theorem as3:(Rows.heditAnewRow.veiled==(Tryz.f9.params.toList++Rows.heditAnewSpec.plain.varTypes Tryz.prog++Tryz.f9.resultTypes.toList).any (Tryz.prog.veiledRec ·))=ut:=by decide+kernel
theorem as4:Rows.heditAnewRow.veiledFits Tryz.prog Tryz.f9.params.toList (Tryz.f9.params.toList++Rows.heditAnewSpec.plain.varTypes Tryz.prog++Tryz.f9.resultTypes.toList)=ut:=by decide+kernel
set_option maxRecDepth 100000 in
theorem abF:joinedFacts Tryz.prog 9 Tryz.f9 Rows.heditAnewSpec Rows.heditAnewRow=ut:=(nD (nD (nD (nD (nD (nD (nD (nD (nD (nD (nD (nD (nD (nD (nD (nD (nD (nD (nD (nD (nD (nD (nD (nD (nD (nD (nD (nD (nD (nD (nD Qk0 Qk1) Qk2) Qk3) Qk4) Qk5) Qk6) Qk7) Qk8) Qk9) asJ) asK) asL) asM) asN) asO) asP) asQ) asR) asS) asT) asU) asV) asW) asX) asY) asZ) as0) as1) as2) as3) as4)
set_option maxRecDepth 100000 in
theorem abG (os:Os) (started:os.Started) (H:Type) (enc:TypeId×Value->H):
 ReturnsInHanded {} Tryz.checked os 9 .any (Rows.heditAnewSpec.pre6 enc Tryz.prog Tryz.f9 Rows.heditAnewRow.domain false) (Rows.heditAnewSpec.post enc Tryz.prog Tryz.f9 false ut false false):=by
 refine returnsInHanded_of_change (C:=Tryz.checked) asI started (by kernel_rfl) Tryz.func9
  (ChangeSpec.witness6 (enc:=enc) (C:=Tryz.checked) false ⟨#[],#[.agg #[.int .i64 0,.int .i64 0,.slice rc 0 0,.int .i64 0,.slice rc 0 0,.slice rc 0 0,.slice rc 0 0,.slice rc 0 0,.slice rc 0 0,.slice rc 0 0,.slice rc 0 0,.slice rc 0 0],.agg #[.int .i64 0,.int .i64 0,.int .i64 0],.int .i64 0,.agg #[.int .i64 0,.int .i64 0]],[]⟩ 16 (by kernel_rfl) (by kernel_rfl) (by kernel_rfl) (by kernel_rfl)) ?_
 intro W oo args ds gs before ann hW VD _;have MV: ∀(j:Nat) t v,Tryz.f9.params[j]? =some t->args[j]? =some v->Value.okWide Tryz.prog W .any oo t v:=ann;have hW':=hW;obtain ⟨p,q,hA0,hV,rfl,UY,GI⟩:=hW;have hA:DataW.TrodAll enc Tryz.prog W 0 (fun _=>ut) ut Tryz.f9.params.toList args.toList ds p:=hA0;rw [Tryz.params9] at hA MV;obtain ⟨v0,vs0,d0,ds0,p0,q0,lO,rfl,rfl,h0,r0⟩:=trodAll_cons hA;obtain ⟨v1,vs1,d1,ds1,p1,q1,rfl,rfl,rfl,h1,r1⟩:=trodAll_cons r0;obtain ⟨v2,vs2,d2,ds2,p2,q2,rfl,rfl,rfl,h2,r2⟩:=trodAll_cons r1;obtain ⟨v3,vs3,d3,ds3,p3,q3,rfl,rfl,rfl,h3,r3⟩:=trodAll_cons r2;obtain ⟨rfl,rfl,rfl⟩:=trodAll_nil r3;obtain rfl:args= #[v0,v1,v2,v3]:=by cases args;simp_all
 obtain ⟨rfl,rfl⟩:=trodVars_none hV;obtain ⟨_,g0,⟨a0,rfl,w0⟩,e0,k0⟩:=cE.adI aje Tryz.underlying41 (MV 0 41 v0 rfl rfl) h0;obtain rfl:g0=(qE (fc.enc a0)).getD []:=by rw [e0];rfl
 obtain ⟨_,g1,⟨a1,rfl,w1⟩,e1,k1⟩:=cE.adI UA Tryz.underlying76 (MV 1 76 v1 rfl rfl) h1;obtain rfl:g1=(qE (RT.sv [.i .i64,.i .i64,.i .i64] a1)).getD []:=by rw [e1];rfl
 obtain ⟨a2,w2,k2⟩:=cE.apU Tryz.underlying3 (MV 2 3 v2 rfl rfl) h2;obtain ⟨_,g3,⟨a3,rfl,w3⟩,e3,k3⟩:=cE.adI NU Tryz.underlying23 (MV 3 23 v3 rfl rfl) h3;obtain rfl:g3=(qE (RT.sv [.i .i64,.i .i64] a3)).getD []:=by rw [e3];rfl
 obtain ⟨n,s,z,cf⟩:=dU.apV c9.ok acw (a:=(a0,a1,a2,a3)) (yX a0 a1 a2 a3 (Ud.of w0.jp.ci w0.jp.aa.bv) ⟨wf_i64 w3.1,wf_i64 w3.2⟩) (ps:=[.agg ((qE (fc.enc a0)).getD []),.agg ((qE (RT.sv [.i .i64,.i .i64,.i .i64] a1)).getD []),.int .i64 a2,.agg ((qE (RT.sv [.i .i64,.i .i64] a3)).getD [])]) rfl rfl;refine (P9 (P:=Tryz.prog) (prims:=fun _=>ut) (TT.akK OM) (TT.Vo OM) ma cf (us:=[v0,v1,v2,v3]) (w:=W) (.cons _ _ _ _ k0 (.cons _ _ _ _ k1 (.cons _ _ _ _ k2 (.cons _ _ _ _ k3 (.nil)))))).mono fun e W' ⟨he,hb⟩=>?_
 subst he;exact ⟨_,rfl,Sd (P:=Tryz.prog) (bt:=4) Qk1 rfl rfl (by kernel_rfl) (by
  rw [Tryz.params9];intro t ht;simp only [List.mem_cons,List.not_mem_nil,or_false] at ht;rcases ht with rfl|rfl|rfl|rfl
  · exact ank
  · exact anl
  · exact asH
  exact anm) hW' rfl hb⟩
theorem heditAnew_holds:Rows.HeditAnewSaid:=
 OpenClaim.holds_of_wide 9 Tryz.f9 rfl rfl rfl rfl rfl rfl rfl ⟨rfl,rfl,rfl,rfl,rfl⟩ rfl rfl rfl rfl rfl (by kernel_rfl) Tryz.func9 abF
  (of_decide_eq_true (by kernel_rfl)) (by unfold Func.isWrapper;first|(rw [lm (by decide+kernel)];kernel_rfl)|(rw [ls (by decide+kernel)];exact ⟨rfl,rfl⟩))
  (fun os started H enc _=>abG os started H enc)
end Go.Proofs.YtfejhjllooomlaaGreat
