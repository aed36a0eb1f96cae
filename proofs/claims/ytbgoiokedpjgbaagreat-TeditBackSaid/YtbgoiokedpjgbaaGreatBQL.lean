/- The law TeditBack returns true: its plain function gives true whatever comes in. -/
import Derived.Test.YtbgoiokedpjgbaaGreatRows
import Derived.Test.YtbgoiokedpjgbaaGreatBQS2
import Derived.Test.YtbgoiokedpjgbaaGreatBQM5
import Derived.Test.YtbgoiokedpjgbaaGreatBVm3
open List renaming append_nil->ut
open Option renaming none->v6
open Bool renaming true->ww
namespace Go.Proofs.YtbgoiokedpjgbaaGreat
open Go.ChangeShapes Go.WideShapes Go.ChangeAt Go.RowKit Go.Vm
theorem Ro:cB Tryz.prog 2 (gN [.i .i64]):=cB.int Tryz.underlying2
theorem WK:cB Tryz.prog 23 (gN [.i .i64,.i .i64]):=(cB.struct (Ks:=[(gN [.i .i64]),(gN [.i .i64])]) Tryz.underlying23 (bm.cons (by kernel_rfl) Ro (bm.cons (by kernel_rfl) Ro (bm.nil))) (by kernel_rfl)).mono (fun vs h=>nD (rs:=[[.i .i64],[.i .i64]]) h)
theorem Ah:cB Tryz.prog 3 (gN [.i .i64]):=cB.int Tryz.underlying3
theorem WL:cB Tryz.prog 58 (gN [.i .i64,.i .i64,.i .i64]):=(cB.struct (Ks:=[(gN [.i .i64]),(gN [.i .i64]),(gN [.i .i64])]) Tryz.underlying58 (bm.cons (by kernel_rfl) Ah (bm.cons (by kernel_rfl) Ro (bm.cons (by kernel_rfl) Ro (bm.nil)))) (by kernel_rfl)).mono (fun vs h=>nD (rs:=[[.i .i64],[.i .i64],[.i .i64]]) h)
theorem anc:cB Tryz.prog 24 (LX [.i .i64,.i .i64,.i .i64]):=cB.slice (r:=[.i .i64,.i .i64,.i .i64]) Tryz.underlying24 WL (by kernel_rfl) (by decide)
structure Field.WF (c:Field):Prop where
 am: ∀a∈c.am,RT.wf [.i .i64,.i .i64,.i .i64] a
def Rp:List SV->Prop:=fun vs=> ∃c:Field,vs=bN.enc c/\c.WF
theorem ane:cB Tryz.prog 26 Rp:=(cB.struct (Ks:=[(LX [.i .i64,.i .i64,.i .i64])]) Tryz.underlying26 (bm.cons (by kernel_rfl) anc (bm.nil)) (by kernel_rfl)).mono (by
 rintro vs ⟨_,b0,rfl,⟨c0,rfl,w0⟩,rfl⟩;refine ⟨⟨c0⟩,?_,⟨w0⟩⟩;simp only [ut]
 rfl)
theorem ae3:cB Tryz.prog 150 (gN [.i .i64,.i .i64]):=(cB.struct (Ks:=[(gN [.i .i64]),(gN [.i .i64])]) Tryz.underlying150 (bm.cons (by kernel_rfl) Ah (bm.cons (by kernel_rfl) Ah (bm.nil))) (by kernel_rfl)).mono (fun vs h=>nD (rs:=[[.i .i64],[.i .i64]]) h)
theorem ae4:cB Tryz.prog 152 (gN [.i .i64,.i .i64,.i .i64]):=(cB.struct (Ks:=[(gN [.i .i64]),(gN [.i .i64,.i .i64])]) Tryz.underlying152 (bm.cons (by kernel_rfl) Ah (bm.cons (by kernel_rfl) ae3 (bm.nil))) (by kernel_rfl)).mono (fun vs h=>nD (rs:=[[.i .i64],[.i .i64,.i .i64]]) h)
theorem anf:cB Tryz.prog 27 (LX [.i .i64,.i .i64,.i .i64]):=cB.slice (r:=[.i .i64,.i .i64,.i .i64]) Tryz.underlying27 ae4 (by kernel_rfl) (by decide)
structure bC.WF (c:bC):Prop where
 aM:RT.wf [.i .i64] c.aM
 ce: ∀a∈c.ce,RT.wf [.i .i64,.i .i64,.i .i64] a
def Rq:List SV->Prop:=fun vs=> ∃c:bC,vs=gl.enc c/\c.WF
theorem ang:cB Tryz.prog 29 Rq:=(cB.struct (Ks:=[(gN [.i .i64]),(LX [.i .i64,.i .i64,.i .i64])]) Tryz.underlying29 (bm.cons (by kernel_rfl) Ah (bm.cons (by kernel_rfl) anf (bm.nil))) (by kernel_rfl)).mono (by
 rintro vs ⟨_,b0,rfl,⟨c0,rfl,w0⟩,_,b1,rfl,⟨c1,rfl,w1⟩,rfl⟩;refine ⟨⟨c0,c1⟩,?_,⟨w0,w1⟩⟩;simp only [ut]
 rfl)
theorem G5:cB Tryz.prog 30 (LX [.i .i64]):=cB.slice (r:=[.i .i64]) Tryz.underlying30 Ah (by kernel_rfl) (by decide)
theorem arV:cB Tryz.prog 4 (gN [.b]):=cB.bool Tryz.underlying4
theorem anh:cB Tryz.prog 31 (LX [.b]):=cB.slice (r:=[.b]) Tryz.underlying31 arV (by kernel_rfl) (by decide)
structure bc.WF (c:bc):Prop where
 aA: ∀a∈c.aA,RT.wf [.i .i64] a
 be: ∀a∈c.be,RT.wf [.b] a
 bi: ∀a∈c.bi,RT.wf [.i .i64] a
def Rr:List SV->Prop:=fun vs=> ∃c:bc,vs=fJ.enc c/\c.WF
theorem ani:cB Tryz.prog 33 Rr:=(cB.struct (Ks:=[(LX [.i .i64]),(LX [.b]),(LX [.i .i64])]) Tryz.underlying33 (bm.cons (by kernel_rfl) G5 (bm.cons (by kernel_rfl) anh (bm.cons (by kernel_rfl) G5 (bm.nil)))) (by kernel_rfl)).mono (by
 rintro vs ⟨_,b0,rfl,⟨c0,rfl,w0⟩,_,b1,rfl,⟨c1,rfl,w1⟩,_,b2,rfl,⟨c2,rfl,w2⟩,rfl⟩;refine ⟨⟨c0,c1,c2⟩,?_,⟨w0,w1,w2⟩⟩;simp only [ut]
 rfl)
theorem Rs:cB Tryz.prog 142 (gN [.i .i64,.i .i64]):=(cB.struct (Ks:=[(gN [.i .i64]),(gN [.i .i64])]) Tryz.underlying142 (bm.cons (by kernel_rfl) Ah (bm.cons (by kernel_rfl) Ah (bm.nil))) (by kernel_rfl)).mono (fun vs h=>nD (rs:=[[.i .i64],[.i .i64]]) h)
theorem ae5:cB Tryz.prog 156 (gN [.i .i64,.i .i64,.i .i64,.i .i64,.i .i64]):=(cB.struct (Ks:=[(gN [.i .i64,.i .i64]),(gN [.i .i64]),(gN [.i .i64,.i .i64])]) Tryz.underlying156 (bm.cons (by kernel_rfl) WK (bm.cons (by kernel_rfl) Ah (bm.cons (by kernel_rfl) Rs (bm.nil)))) (by kernel_rfl)).mono (fun vs h=>nD (rs:=[[.i .i64,.i .i64],[.i .i64],[.i .i64,.i .i64]]) h)
theorem anj:cB Tryz.prog 34 (LX [.i .i64,.i .i64,.i .i64,.i .i64,.i .i64]):=cB.slice (r:=[.i .i64,.i .i64,.i .i64,.i .i64,.i .i64]) Tryz.underlying34 ae5 (by kernel_rfl) (by decide)
structure aK.WF (c:aK):Prop where
 af:bc.WF c.af
 bv: ∀a∈c.bv,RT.wf [.i .i64,.i .i64,.i .i64,.i .i64,.i .i64] a
 aq: ∀a∈c.aq,RT.wf [.i .i64] a
def Ny:List SV->Prop:=fun vs=> ∃c:aK,vs=cZ.enc c/\c.WF
theorem ank:cB Tryz.prog 36 Ny:=(cB.struct (Ks:=[Rr,(LX [.i .i64,.i .i64,.i .i64,.i .i64,.i .i64]),(LX [.i .i64])]) Tryz.underlying36 (bm.cons (by kernel_rfl) ani (bm.cons (by kernel_rfl) anj (bm.cons (by kernel_rfl) G5 (bm.nil)))) (by kernel_rfl)).mono (by
 rintro vs ⟨_,b0,rfl,⟨c0,rfl,w0⟩,_,b1,rfl,⟨c1,rfl,w1⟩,_,b2,rfl,⟨c2,rfl,w2⟩,rfl⟩;refine ⟨⟨c0,c1,c2⟩,?_,⟨w0,w1,w2⟩⟩;simp only [ut]
 rfl)
theorem ae6:cB Tryz.prog 144 (gN [.i .i64,.i .i64,.i .i64]):=(cB.struct (Ks:=[(gN [.i .i64]),(gN [.i .i64,.i .i64])]) Tryz.underlying144 (bm.cons (by kernel_rfl) Ah (bm.cons (by kernel_rfl) Rs (bm.nil))) (by kernel_rfl)).mono (fun vs h=>nD (rs:=[[.i .i64],[.i .i64,.i .i64]]) h)
theorem anl:cB Tryz.prog 37 (LX [.i .i64,.i .i64,.i .i64]):=cB.slice (r:=[.i .i64,.i .i64,.i .i64]) Tryz.underlying37 ae6 (by kernel_rfl) (by decide)
structure aP.WF (c:aP):Prop where
 ci:RT.wf [.i .i64,.i .i64] c.ci
 ii:Field.WF c.ii
 ai:bC.WF c.ai
 ae:aK.WF c.ae
 io: ∀a∈c.io,RT.wf [.i .i64,.i .i64,.i .i64] a
def Rt:List SV->Prop:=fun vs=> ∃c:aP,vs=bS.enc c/\c.WF
theorem anm:cB Tryz.prog 39 Rt:=(cB.struct (Ks:=[(gN [.i .i64,.i .i64]),Rp,Rq,Ny,(LX [.i .i64,.i .i64,.i .i64])]) Tryz.underlying39 (bm.cons (by kernel_rfl) WK (bm.cons (by kernel_rfl) ane (bm.cons (by kernel_rfl) ang (bm.cons (by kernel_rfl) ank (bm.cons (by kernel_rfl) anl (bm.nil)))))) (by kernel_rfl)).mono (by
 rintro vs ⟨_,b0,rfl,⟨c0,rfl,w0⟩,_,b1,rfl,⟨c1,rfl,w1⟩,_,b2,rfl,⟨c2,rfl,w2⟩,_,b3,rfl,⟨c3,rfl,w3⟩,_,b4,rfl,⟨c4,rfl,w4⟩,rfl⟩;refine ⟨⟨c0,c1,c2,c3,c4⟩,?_,⟨w0,w1,w2,w3,w4⟩⟩;simp only [ut]
 rfl)
structure bu.WF (c:bu):Prop where
 aL: ∀a∈c.aL,RT.wf [.i .i64] a
 iU: ∀a∈c.iU,RT.wf [.i .i64] a
def IL:List SV->Prop:=fun vs=> ∃c:bu,vs=fq.enc c/\c.WF
theorem ann:cB Tryz.prog 41 IL:=(cB.struct (Ks:=[(LX [.i .i64]),(LX [.i .i64])]) Tryz.underlying41 (bm.cons (by kernel_rfl) G5 (bm.cons (by kernel_rfl) G5 (bm.nil))) (by kernel_rfl)).mono (by
 rintro vs ⟨_,b0,rfl,⟨c0,rfl,w0⟩,_,b1,rfl,⟨c1,rfl,w1⟩,rfl⟩;refine ⟨⟨c0,c1⟩,?_,⟨w0,w1⟩⟩;simp only [ut]
 rfl)
structure bJ.WF (c:bJ):Prop where
 jp:aP.WF c.jp
 kw:bu.WF c.kw
def WM:List SV->Prop:=fun vs=> ∃c:bJ,vs=ft.enc c/\c.WF
theorem ano:cB Tryz.prog 43 WM:=(cB.struct (Ks:=[Rt,IL]) Tryz.underlying43 (bm.cons (by kernel_rfl) anm (bm.cons (by kernel_rfl) ann (bm.nil))) (by kernel_rfl)).mono (by
 rintro vs ⟨_,b0,rfl,⟨c0,rfl,w0⟩,_,b1,rfl,⟨c1,rfl,w1⟩,rfl⟩;refine ⟨⟨c0,c1⟩,?_,⟨w0,w1⟩⟩;simp only [ut]
 rfl)
theorem arW:Tryz.prog.readableRec 43=ww/\43<Tryz.prog.types.size:=⟨by kernel_rfl,of_decide_eq_true (by kernel_rfl)⟩
theorem arX:Tryz.prog.readableRec 58=ww/\58<Tryz.prog.types.size:=⟨by kernel_rfl,of_decide_eq_true (by kernel_rfl)⟩
theorem avS:Tryz.prog.readableRec 3=ww/\3<Tryz.prog.types.size:=⟨by kernel_rfl,of_decide_eq_true (by kernel_rfl)⟩
theorem avT:ownKnob Tryz.prog.godebug=v6:=by kernel_rfl
theorem nk {a b:Bool} (h:a=ww) (k:b=ww):(a&&b)=ww:=by rw [h,k];rfl
theorem Qk0:Rows.teditBackRow.wf (OpenSpec.ofChange Rows.teditBackSpec)=ww:=by decide+kernel
theorem Qk1:laidOutB Tryz.prog=ww:=by decide+kernel
theorem Qk2:mapsRowed Tryz.prog=ww:=by decide+kernel
theorem Qk3:Tryz.f5.params.all (Tryz.prog.readableRec ·)=ww:=by decide+kernel
theorem Qk4:namedTie Tryz.prog Rows.teditBackRow.named Rows.teditBackSpec.vars=ww:=by decide+kernel
theorem Qk5:(Rows.teditBackRow.stops==[])=ww:=by decide+kernel
theorem Qk6:(Tryz.prog.stops==[])=ww:=by decide+kernel
theorem Qk7:(Rows.teditBackRow.knobs==[])=ww:=by decide+kernel
theorem Qk8:(Tryz.prog.stopKnobs==[])=ww:=by decide+kernel
theorem Qk9:(Rows.teditBackRow.inPlace==Tryz.prog.inPlace 5)=ww:=by decide+kernel
theorem avU:(Rows.teditBackRow.unfollowed==Tryz.prog.unfollowed 5)=ww:=by decide+kernel
theorem avV:(Rows.teditBackRow.recurses==Tryz.prog.recurses 5)=ww:=by decide+kernel
theorem avW:(Rows.teditBackRow.named==Tryz.prog.varsNamed 5)=ww:=by decide+kernel
theorem avX:(Rows.teditBackRow.maps==(Tryz.f5.params.toList++Rows.teditBackSpec.plain.varTypes Tryz.prog).any (Tryz.prog.mapsRec ·))=ww:=by decide+kernel
theorem avY:(Rows.teditBackRow.ifaces==(Tryz.f5.params.toList++Rows.teditBackSpec.plain.varTypes Tryz.prog).any (Tryz.prog.ifacesRec ·))=ww:=by decide+kernel
theorem avZ:(Rows.teditBackRow.mapsOut==Tryz.prog.mapsAmong Tryz.f5.resultTypes.toList)=ww:=by decide+kernel
theorem av0:(Rows.teditBackRow.loops==(Tryz.f5.params.toList++Rows.teditBackSpec.plain.varTypes Tryz.prog).any (Tryz.prog.loopsFrom ·))=ww:=by decide+kernel
theorem av1:(Rows.teditBackRow.wideKeys==(Tryz.f5.params.toList++Rows.teditBackSpec.plain.varTypes Tryz.prog++Tryz.f5.resultTypes.toList).any (Tryz.prog.wideKeysFrom ·))=ww:=by decide+kernel
theorem av2:Rows.teditBackSpec.vars.all (Tryz.prog.varReadable ·)=ww:=by decide+kernel
theorem av3:Tryz.f5.resultTypes.all (fun t=>Tryz.prog.readableRec t&&decide (t<Tryz.prog.types.size))=ww:=by decide+kernel
theorem av4:(Rows.teditBackRow.ifacesOut==Tryz.f5.resultTypes.toList.any (Tryz.prog.ifacesRec ·))=ww:=by decide+kernel
theorem av5:(Rows.teditBackRow.loopsOut==Tryz.f5.resultTypes.toList.any (Tryz.prog.loopsFrom ·))=ww:=by decide+kernel
theorem av6:(Rows.teditBackRow.plainKeys==Tryz.prog.plainKeys)=ww:=by decide+kernel
theorem av7:Rows.teditBackRow.shortTexts.isNone=ww:=by decide+kernel
theorem av8:Tryz.prog.stopsHeard=ww:=by decide+kernel
theorem av9:Tryz.prog.mayEnter=ww:=by decide+kernel
theorem av':(Rows.teditBackRow.lifted==Tryz.prog.liftsFinal)=ww:=by decide+kernel
theorem awa:(Tryz.prog.make==some Rows.teditBackRow.make)=ww:=by decide+kernel
theorem awb:(Rows.teditBackRow.kinds==(if Rows.teditBackRow.domain.isEmpty then [] else Tryz.f5.params.toList.map fun t=>match Tryz.prog.underlying t with|some (.int k)=>some k|_=>v6))=ww:=by decide+kernel
theorem awc:(Rows.teditBackRow.pinned==Rows.teditBackRow.pinnedBy)=ww:=by decide+kernel
theorem awd:(Rows.teditBackRow.veiled==(Tryz.f5.params.toList++Rows.teditBackSpec.plain.varTypes Tryz.prog++Tryz.f5.resultTypes.toList).any (Tryz.prog.veiledRec ·))=ww:=by decide+kernel
theorem awe:Rows.teditBackRow.veiledFits Tryz.prog Tryz.f5.params.toList (Tryz.f5.params.toList++Rows.teditBackSpec.plain.varTypes Tryz.prog++Tryz.f5.resultTypes.toList)=ww:=by decide+kernel
set_option maxRecDepth 100000 in
theorem ae7:joinedFacts Tryz.prog 5 Tryz.f5 Rows.teditBackSpec Rows.teditBackRow=ww:=(nk (nk (nk (nk (nk (nk (nk (nk (nk (nk (nk (nk (nk (nk (nk (nk (nk (nk (nk (nk (nk (nk (nk (nk (nk (nk (nk (nk (nk (nk (nk Qk0 Qk1) Qk2) Qk3) Qk4) Qk5) Qk6) Qk7) Qk8) Qk9) avU) avV) avW) avX) avY) avZ) av0) av1) av2) av3) av4) av5) av6) av7) av8) av9) av') awa) awb) awc) awd) awe)
set_option maxRecDepth 100000 in
theorem ae8 (os:Os) (started:os.Started) (H:Type) (enc:TypeId×Value->H):
 ReturnsInHanded {} Tryz.checked os 5 .any (Rows.teditBackSpec.pre6 enc Tryz.prog Tryz.f5 Rows.teditBackRow.domain false) (Rows.teditBackSpec.post enc Tryz.prog Tryz.f5 false ww false false):=by
 refine returnsInHanded_of_change (C:=Tryz.checked) avT started (by kernel_rfl) Tryz.func5
  (ChangeSpec.witness6 (enc:=enc) (C:=Tryz.checked) false ⟨#[],#[.agg #[.int .i64 0,.int .i64 0,.slice v6 0 0,.int .i64 0,.slice v6 0 0,.slice v6 0 0,.slice v6 0 0,.slice v6 0 0,.slice v6 0 0,.slice v6 0 0,.slice v6 0 0,.slice v6 0 0,.slice v6 0 0],.agg #[.int .i64 0,.int .i64 0,.int .i64 0],.int .i64 0],[]⟩ 16 (by kernel_rfl) (by kernel_rfl) (by kernel_rfl) (by kernel_rfl)) ?_
 intro W od args ds gs before arY hW XP _;have Si: ∀(j:Nat) t v,Tryz.f5.params[j]? =some t->args[j]? =some v->Value.okWide Tryz.prog W .any od t v:=arY;have hW':=hW;obtain ⟨p,q,hA0,hV,rfl,Tj,G8⟩:=hW;have hA:DataW.TrodAll enc Tryz.prog W 0 (fun _=>ww) ww Tryz.f5.params.toList args.toList ds p:=hA0
 rw [Tryz.params5] at hA Si;obtain ⟨v0,vs0,d0,ds0,p0,q0,lf,rfl,rfl,h0,r0⟩:=trodAll_cons hA;obtain ⟨v1,vs1,d1,ds1,p1,q1,rfl,rfl,rfl,h1,r1⟩:=trodAll_cons r0;obtain ⟨v2,vs2,d2,ds2,p2,q2,rfl,rfl,rfl,h2,r2⟩:=trodAll_cons r1;obtain ⟨rfl,rfl,rfl⟩:=trodAll_nil r2;obtain rfl:args= #[v0,v1,v2]:=by cases args;simp_all
 obtain ⟨rfl,rfl⟩:=trodVars_none hV;obtain ⟨_,g0,⟨a0,rfl,w0⟩,e0,k0⟩:=cB.apq ano Tryz.underlying43 (Si 0 43 v0 rfl rfl) h0;obtain rfl:g0=(qZ (ft.enc a0)).getD []:=by rw [e0];rfl
 obtain ⟨_,g1,⟨a1,rfl,w1⟩,e1,k1⟩:=cB.apq WL Tryz.underlying58 (Si 1 58 v1 rfl rfl) h1;obtain rfl:g1=(qZ (RT.sv [.i .i64,.i .i64,.i .i64] a1)).getD []:=by rw [e1];rfl
 obtain ⟨a2,w2,k2⟩:=cB.at8 Tryz.underlying3 (Si 2 3 v2 rfl rfl) h2;obtain ⟨n,s,z,cu⟩:=aF.at9 arD afT (a:=(a0,a1,a2)) (yM a0 a1 a2 (M8.of w0.jp.ci w0.jp.ae.bv)) (ps:=[.agg ((qZ (ft.enc a0)).getD []),.agg ((qZ (RT.sv [.i .i64,.i .i64,.i .i64] a1)).getD []),.int .i64 a2]) rfl rfl
 refine (R6 (P:=Tryz.prog) (prims:=fun _=>ww) (TT.aoV Qv) (TT.XA Qv) lF cu (us:=[v0,v1,v2]) (w:=W) (.cons _ _ _ _ k0 (.cons _ _ _ _ k1 (.cons _ _ _ _ k2 (.nil))))).mono fun e W' ⟨he,hb⟩=>?_
 subst he;exact ⟨_,rfl,Ul (P:=Tryz.prog) (bt:=4) Qk1 rfl rfl (by kernel_rfl) (by
  rw [Tryz.params5];intro t ht;simp only [List.mem_cons,List.not_mem_nil,or_false] at ht;rcases ht with rfl|rfl|rfl
  · exact arW
  · exact arX
  exact avS) hW' rfl hb⟩
theorem teditBack_holds:Rows.TeditBackSaid:=
 OpenClaim.holds_of_wide 5 Tryz.f5 rfl rfl rfl rfl rfl rfl rfl ⟨rfl,rfl,rfl,rfl,rfl⟩ rfl rfl rfl rfl rfl (by kernel_rfl) Tryz.func5 ae7
  (of_decide_eq_true (by kernel_rfl)) (by unfold Func.isWrapper;first|(rw [pp (by decide+kernel)];kernel_rfl)|(rw [rc (by decide+kernel)];exact ⟨rfl,rfl⟩))
  (fun os started H enc _=>ae8 os started H enc)
end Go.Proofs.YtbgoiokedpjgbaaGreat
