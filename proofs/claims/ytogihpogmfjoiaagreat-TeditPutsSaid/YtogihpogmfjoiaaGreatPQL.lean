/- The law TeditPuts returns true: its plain function gives true whatever comes in. -/
import Derived.Test.YtogihpogmfjoiaaGreatRows
import Derived.Test.YtogihpogmfjoiaaGreatPQS2
import Derived.Test.YtogihpogmfjoiaaGreatPQM5
import Derived.Test.YtogihpogmfjoiaaGreatPVm3
open List renaming append_nil->bn
namespace Go.Proofs.YtogihpogmfjoiaaGreat
open Go.ChangeShapes Go.WideShapes Go.ChangeAt Go.RowKit Go.Vm
theorem aCy:cX Tryz.prog 2 (jA [.i .i64]):=cX.int Tryz.underlying2
theorem aGa:cX Tryz.prog 23 (jA [.i .i64,.i .i64]):=(cX.struct (Ks:=[(jA [.i .i64]),(jA [.i .i64])]) Tryz.underlying23 (bD.cons (by kernel_rfl) aCy (bD.cons (by kernel_rfl) aCy (bD.nil))) (by kernel_rfl)).mono (fun vs h=>qZ (rs:=[[.i .i64],[.i .i64]]) h)
theorem G9:cX Tryz.prog 3 (jA [.i .i64]):=cX.int Tryz.underlying3
theorem aA9:cX Tryz.prog 58 (jA [.i .i64,.i .i64,.i .i64]):=(cX.struct (Ks:=[(jA [.i .i64]),(jA [.i .i64]),(jA [.i .i64])]) Tryz.underlying58 (bD.cons (by kernel_rfl) G9 (bD.cons (by kernel_rfl) aCy (bD.cons (by kernel_rfl) aCy (bD.nil)))) (by kernel_rfl)).mono (fun vs h=>qZ (rs:=[[.i .i64],[.i .i64],[.i .i64]]) h)
theorem aUm:cX Tryz.prog 24 (XB [.i .i64,.i .i64,.i .i64]):=cX.slice (r:=[.i .i64,.i .i64,.i .i64]) Tryz.underlying24 aA9 (by kernel_rfl) (by decide)
structure Field.WF (c:Field):Prop where
 aa: ∀a∈c.aa,RT.wf [.i .i64,.i .i64,.i .i64] a
def aCz:List SV->Prop:=fun vs=> ∃c:Field,vs=bV.enc c/\c.WF
theorem aUn:cX Tryz.prog 26 aCz:=(cX.struct (Ks:=[(XB [.i .i64,.i .i64,.i .i64])]) Tryz.underlying26 (bD.cons (by kernel_rfl) aUm (bD.nil)) (by kernel_rfl)).mono (by
 rintro vs ⟨_,b0,rfl,⟨c0,rfl,w0⟩,rfl⟩;refine ⟨⟨c0⟩,?_,⟨w0⟩⟩;simp only [bn]
 rfl)
theorem aNQ:cX Tryz.prog 156 (jA [.i .i64,.i .i64]):=(cX.struct (Ks:=[(jA [.i .i64]),(jA [.i .i64])]) Tryz.underlying156 (bD.cons (by kernel_rfl) G9 (bD.cons (by kernel_rfl) G9 (bD.nil))) (by kernel_rfl)).mono (fun vs h=>qZ (rs:=[[.i .i64],[.i .i64]]) h)
theorem aNR:cX Tryz.prog 158 (jA [.i .i64,.i .i64,.i .i64]):=(cX.struct (Ks:=[(jA [.i .i64]),(jA [.i .i64,.i .i64])]) Tryz.underlying158 (bD.cons (by kernel_rfl) G9 (bD.cons (by kernel_rfl) aNQ (bD.nil))) (by kernel_rfl)).mono (fun vs h=>qZ (rs:=[[.i .i64],[.i .i64,.i .i64]]) h)
theorem aUo:cX Tryz.prog 27 (XB [.i .i64,.i .i64,.i .i64]):=cX.slice (r:=[.i .i64,.i .i64,.i .i64]) Tryz.underlying27 aNR (by kernel_rfl) (by decide)
structure bO.WF (c:bO):Prop where
 aq:RT.wf [.i .i64] c.aq
 ar: ∀a∈c.ar,RT.wf [.i .i64,.i .i64,.i .i64] a
def aCA:List SV->Prop:=fun vs=> ∃c:bO,vs=iA.enc c/\c.WF
theorem aUp:cX Tryz.prog 29 aCA:=(cX.struct (Ks:=[(jA [.i .i64]),(XB [.i .i64,.i .i64,.i .i64])]) Tryz.underlying29 (bD.cons (by kernel_rfl) G9 (bD.cons (by kernel_rfl) aUo (bD.nil))) (by kernel_rfl)).mono (by
 rintro vs ⟨_,b0,rfl,⟨c0,rfl,w0⟩,_,b1,rfl,⟨c1,rfl,w1⟩,rfl⟩;refine ⟨⟨c0,c1⟩,?_,⟨w0,w1⟩⟩;simp only [bn]
 rfl)
theorem QS:cX Tryz.prog 30 (XB [.i .i64]):=cX.slice (r:=[.i .i64]) Tryz.underlying30 G9 (by kernel_rfl) (by decide)
theorem aWW:cX Tryz.prog 4 (jA [.b]):=cX.bool Tryz.underlying4
theorem aUq:cX Tryz.prog 31 (XB [.b]):=cX.slice (r:=[.b]) Tryz.underlying31 aWW (by kernel_rfl) (by decide)
structure bC.WF (c:bC):Prop where
 ac: ∀a∈c.ac,RT.wf [.i .i64] a
 ae: ∀a∈c.ae,RT.wf [.b] a
 af: ∀a∈c.af,RT.wf [.i .i64] a
def aCB:List SV->Prop:=fun vs=> ∃c:bC,vs=gX.enc c/\c.WF
theorem aUr:cX Tryz.prog 33 aCB:=(cX.struct (Ks:=[(XB [.i .i64]),(XB [.b]),(XB [.i .i64])]) Tryz.underlying33 (bD.cons (by kernel_rfl) QS (bD.cons (by kernel_rfl) aUq (bD.cons (by kernel_rfl) QS (bD.nil)))) (by kernel_rfl)).mono (by
 rintro vs ⟨_,b0,rfl,⟨c0,rfl,w0⟩,_,b1,rfl,⟨c1,rfl,w1⟩,_,b2,rfl,⟨c2,rfl,w2⟩,rfl⟩;refine ⟨⟨c0,c1,c2⟩,?_,⟨w0,w1,w2⟩⟩;simp only [bn]
 rfl)
theorem aCC:cX Tryz.prog 148 (jA [.i .i64,.i .i64]):=(cX.struct (Ks:=[(jA [.i .i64]),(jA [.i .i64])]) Tryz.underlying148 (bD.cons (by kernel_rfl) G9 (bD.cons (by kernel_rfl) G9 (bD.nil))) (by kernel_rfl)).mono (fun vs h=>qZ (rs:=[[.i .i64],[.i .i64]]) h)
theorem aNS:cX Tryz.prog 162 (jA [.i .i64,.i .i64,.i .i64,.i .i64,.i .i64]):=(cX.struct (Ks:=[(jA [.i .i64,.i .i64]),(jA [.i .i64]),(jA [.i .i64,.i .i64])]) Tryz.underlying162 (bD.cons (by kernel_rfl) aGa (bD.cons (by kernel_rfl) G9 (bD.cons (by kernel_rfl) aCC (bD.nil)))) (by kernel_rfl)).mono (fun vs h=>qZ (rs:=[[.i .i64,.i .i64],[.i .i64],[.i .i64,.i .i64]]) h)
theorem aUs:cX Tryz.prog 34 (XB [.i .i64,.i .i64,.i .i64,.i .i64,.i .i64]):=cX.slice (r:=[.i .i64,.i .i64,.i .i64,.i .i64,.i .i64]) Tryz.underlying34 aNS (by kernel_rfl) (by decide)
structure aO.WF (c:aO):Prop where
 ai:bC.WF c.ai
 aj: ∀a∈c.aj,RT.wf [.i .i64,.i .i64,.i .i64,.i .i64,.i .i64] a
 am: ∀a∈c.am,RT.wf [.i .i64] a
def ZK:List SV->Prop:=fun vs=> ∃c:aO,vs=dP.enc c/\c.WF
theorem aUt:cX Tryz.prog 36 ZK:=(cX.struct (Ks:=[aCB,(XB [.i .i64,.i .i64,.i .i64,.i .i64,.i .i64]),(XB [.i .i64])]) Tryz.underlying36 (bD.cons (by kernel_rfl) aUr (bD.cons (by kernel_rfl) aUs (bD.cons (by kernel_rfl) QS (bD.nil)))) (by kernel_rfl)).mono (by
 rintro vs ⟨_,b0,rfl,⟨c0,rfl,w0⟩,_,b1,rfl,⟨c1,rfl,w1⟩,_,b2,rfl,⟨c2,rfl,w2⟩,rfl⟩;refine ⟨⟨c0,c1,c2⟩,?_,⟨w0,w1,w2⟩⟩;simp only [bn]
 rfl)
theorem aNT:cX Tryz.prog 150 (jA [.i .i64,.i .i64,.i .i64]):=(cX.struct (Ks:=[(jA [.i .i64]),(jA [.i .i64,.i .i64])]) Tryz.underlying150 (bD.cons (by kernel_rfl) G9 (bD.cons (by kernel_rfl) aCC (bD.nil))) (by kernel_rfl)).mono (fun vs h=>qZ (rs:=[[.i .i64],[.i .i64,.i .i64]]) h)
theorem aUu:cX Tryz.prog 37 (XB [.i .i64,.i .i64,.i .i64]):=cX.slice (r:=[.i .i64,.i .i64,.i .i64]) Tryz.underlying37 aNT (by kernel_rfl) (by decide)
structure aQ.WF (c:aQ):Prop where
 au:RT.wf [.i .i64,.i .i64] c.au
 ax:Field.WF c.ax
 ay:bO.WF c.ay
 az:aO.WF c.az
 ba: ∀a∈c.ba,RT.wf [.i .i64,.i .i64,.i .i64] a
def aCD:List SV->Prop:=fun vs=> ∃c:aQ,vs=bW.enc c/\c.WF
theorem aUv:cX Tryz.prog 39 aCD:=(cX.struct (Ks:=[(jA [.i .i64,.i .i64]),aCz,aCA,ZK,(XB [.i .i64,.i .i64,.i .i64])]) Tryz.underlying39 (bD.cons (by kernel_rfl) aGa (bD.cons (by kernel_rfl) aUn (bD.cons (by kernel_rfl) aUp (bD.cons (by kernel_rfl) aUt (bD.cons (by kernel_rfl) aUu (bD.nil)))))) (by kernel_rfl)).mono (by
 rintro vs ⟨_,b0,rfl,⟨c0,rfl,w0⟩,_,b1,rfl,⟨c1,rfl,w1⟩,_,b2,rfl,⟨c2,rfl,w2⟩,_,b3,rfl,⟨c3,rfl,w3⟩,_,b4,rfl,⟨c4,rfl,w4⟩,rfl⟩;refine ⟨⟨c0,c1,c2,c3,c4⟩,?_,⟨w0,w1,w2,w3,w4⟩⟩;simp only [bn]
 rfl)
structure bE.WF (c:bE):Prop where
 bc: ∀a∈c.bc,RT.wf [.i .i64] a
 be: ∀a∈c.be,RT.wf [.i .i64] a
def S8:List SV->Prop:=fun vs=> ∃c:bE,vs=eH.enc c/\c.WF
theorem aUw:cX Tryz.prog 41 S8:=(cX.struct (Ks:=[(XB [.i .i64]),(XB [.i .i64])]) Tryz.underlying41 (bD.cons (by kernel_rfl) QS (bD.cons (by kernel_rfl) QS (bD.nil))) (by kernel_rfl)).mono (by
 rintro vs ⟨_,b0,rfl,⟨c0,rfl,w0⟩,_,b1,rfl,⟨c1,rfl,w1⟩,rfl⟩;refine ⟨⟨c0,c1⟩,?_,⟨w0,w1⟩⟩;simp only [bn]
 rfl)
structure cE.WF (c:cE):Prop where
 bg:aQ.WF c.bg
 bi:bE.WF c.bi
def aGb:List SV->Prop:=fun vs=> ∃c:cE,vs=eQ.enc c/\c.WF
theorem aUx:cX Tryz.prog 43 aGb:=(cX.struct (Ks:=[aCD,S8]) Tryz.underlying43 (bD.cons (by kernel_rfl) aUv (bD.cons (by kernel_rfl) aUw (bD.nil))) (by kernel_rfl)).mono (by
 rintro vs ⟨_,b0,rfl,⟨c0,rfl,w0⟩,_,b1,rfl,⟨c1,rfl,w1⟩,rfl⟩;refine ⟨⟨c0,c1⟩,?_,⟨w0,w1⟩⟩;simp only [bn]
 rfl)
theorem aWX:Tryz.prog.readableRec 43=true/\43<Tryz.prog.types.size:=⟨by kernel_rfl,of_decide_eq_true (by kernel_rfl)⟩
theorem aOs:Tryz.prog.readableRec 58=true/\58<Tryz.prog.types.size:=⟨by kernel_rfl,of_decide_eq_true (by kernel_rfl)⟩
theorem aYr:ownKnob Tryz.prog.godebug=none:=by kernel_rfl
theorem qR {a b:Bool} (h:a=true) (k:b=true):(a&&b)=true:=by rw [h,k];rfl
theorem Qk0:Rows.teditPutsRow.wf (OpenSpec.ofChange Rows.teditPutsSpec)=true:=by decide+kernel
theorem Qk1:laidOutB Tryz.prog=true:=by decide+kernel
theorem Qk2:mapsRowed Tryz.prog=true:=by decide+kernel
theorem Qk3:Tryz.f4.params.all (Tryz.prog.readableRec ·)=true:=by decide+kernel
theorem Qk4:namedTie Tryz.prog Rows.teditPutsRow.named Rows.teditPutsSpec.vars=true:=by decide+kernel
theorem Qk5:(Rows.teditPutsRow.stops==[])=true:=by decide+kernel
theorem Qk6:(Tryz.prog.stops==[])=true:=by decide+kernel
theorem Qk7:(Rows.teditPutsRow.knobs==[])=true:=by decide+kernel
theorem Qk8:(Tryz.prog.stopKnobs==[])=true:=by decide+kernel
theorem Qk9:(Rows.teditPutsRow.inPlace==Tryz.prog.inPlace 4)=true:=by decide+kernel
theorem aYs:(Rows.teditPutsRow.unfollowed==Tryz.prog.unfollowed 4)=true:=by decide+kernel
theorem aYt:(Rows.teditPutsRow.recurses==Tryz.prog.recurses 4)=true:=by decide+kernel
theorem aYu:(Rows.teditPutsRow.named==Tryz.prog.varsNamed 4)=true:=by decide+kernel
theorem aYv:(Rows.teditPutsRow.maps==(Tryz.f4.params.toList++Rows.teditPutsSpec.plain.varTypes Tryz.prog).any (Tryz.prog.mapsRec ·))=true:=by decide+kernel
theorem aYw:(Rows.teditPutsRow.ifaces==(Tryz.f4.params.toList++Rows.teditPutsSpec.plain.varTypes Tryz.prog).any (Tryz.prog.ifacesRec ·))=true:=by decide+kernel
theorem aYx:(Rows.teditPutsRow.mapsOut==Tryz.prog.mapsAmong Tryz.f4.resultTypes.toList)=true:=by decide+kernel
theorem aYy:(Rows.teditPutsRow.loops==(Tryz.f4.params.toList++Rows.teditPutsSpec.plain.varTypes Tryz.prog).any (Tryz.prog.loopsFrom ·))=true:=by decide+kernel
theorem aYz:(Rows.teditPutsRow.wideKeys==(Tryz.f4.params.toList++Rows.teditPutsSpec.plain.varTypes Tryz.prog++Tryz.f4.resultTypes.toList).any (Tryz.prog.wideKeysFrom ·))=true:=by decide+kernel
theorem aYA:Rows.teditPutsSpec.vars.all (Tryz.prog.varReadable ·)=true:=by decide+kernel
theorem aYB:Tryz.f4.resultTypes.all (fun t=>Tryz.prog.readableRec t&&decide (t<Tryz.prog.types.size))=true:=by decide+kernel
theorem aYC:(Rows.teditPutsRow.ifacesOut==Tryz.f4.resultTypes.toList.any (Tryz.prog.ifacesRec ·))=true:=by decide+kernel
theorem aYD:(Rows.teditPutsRow.loopsOut==Tryz.f4.resultTypes.toList.any (Tryz.prog.loopsFrom ·))=true:=by decide+kernel
theorem aYE:(Rows.teditPutsRow.plainKeys==Tryz.prog.plainKeys)=true:=by decide+kernel
theorem aYF:Rows.teditPutsRow.shortTexts.isNone=true:=by decide+kernel
theorem aYG:Tryz.prog.stopsHeard=true:=by decide+kernel
theorem aYH:Tryz.prog.mayEnter=true:=by decide+kernel
theorem aYI:(Rows.teditPutsRow.lifted==Tryz.prog.liftsFinal)=true:=by decide+kernel
theorem aYJ:(Tryz.prog.make==some Rows.teditPutsRow.make)=true:=by decide+kernel
theorem aYK:(Rows.teditPutsRow.kinds==(if Rows.teditPutsRow.domain.isEmpty then [] else Tryz.f4.params.toList.map fun t=>match Tryz.prog.underlying t with|some (.int k)=>some k|_=>none))=true:=by decide+kernel
theorem aYL:(Rows.teditPutsRow.pinned==Rows.teditPutsRow.pinnedBy)=true:=by decide+kernel
theorem aYM:(Rows.teditPutsRow.veiled==(Tryz.f4.params.toList++Rows.teditPutsSpec.plain.varTypes Tryz.prog++Tryz.f4.resultTypes.toList).any (Tryz.prog.veiledRec ·))=true:=by decide+kernel
theorem aYN:Rows.teditPutsRow.veiledFits Tryz.prog Tryz.f4.params.toList (Tryz.f4.params.toList++Rows.teditPutsSpec.plain.varTypes Tryz.prog++Tryz.f4.resultTypes.toList)=true:=by decide+kernel
set_option maxRecDepth 100000 in
theorem aNU:joinedFacts Tryz.prog 4 Tryz.f4 Rows.teditPutsSpec Rows.teditPutsRow=true:=(qR (qR (qR (qR (qR (qR (qR (qR (qR (qR (qR (qR (qR (qR (qR (qR (qR (qR (qR (qR (qR (qR (qR (qR (qR (qR (qR (qR (qR (qR (qR Qk0 Qk1) Qk2) Qk3) Qk4) Qk5) Qk6) Qk7) Qk8) Qk9) aYs) aYt) aYu) aYv) aYw) aYx) aYy) aYz) aYA) aYB) aYC) aYD) aYE) aYF) aYG) aYH) aYI) aYJ) aYK) aYL) aYM) aYN)
set_option maxRecDepth 100000 in
theorem aNV (os:Os) (started:os.Started) (H:Type) (enc:TypeId×Value->H):
 ReturnsInHanded {} Tryz.checked os 4 .any (Rows.teditPutsSpec.pre6 enc Tryz.prog Tryz.f4 Rows.teditPutsRow.domain false) (Rows.teditPutsSpec.post enc Tryz.prog Tryz.f4 false true false false):=by
 refine returnsInHanded_of_change (C:=Tryz.checked) aYr started (by kernel_rfl) Tryz.func4
  (ChangeSpec.witness6 (enc:=enc) (C:=Tryz.checked) false ⟨#[],#[.agg #[.int .i64 0,.int .i64 0,.slice none 0 0,.int .i64 0,.slice none 0 0,.slice none 0 0,.slice none 0 0,.slice none 0 0,.slice none 0 0,.slice none 0 0,.slice none 0 0,.slice none 0 0,.slice none 0 0],.agg #[.int .i64 0,.int .i64 0,.int .i64 0],.agg #[.int .i64 0,.int .i64 0,.int .i64 0]],[]⟩ 16 (by kernel_rfl) (by kernel_rfl) (by kernel_rfl) (by kernel_rfl)) ?_
 intro W base args ds gs before hval0 hW hcnd _;have hval: ∀(j:Nat) t v,Tryz.f4.params[j]? =some t->args[j]? =some v->Value.okWide Tryz.prog W .any base t v:=hval0;have hW':=hW;obtain ⟨p,q,hA0,hV,rfl,hfz,hnd⟩:=hW;have hA:DataW.TrodAll enc Tryz.prog W 0 (fun _=>true) true Tryz.f4.params.toList args.toList ds p:=hA0
 rw [Tryz.params4] at hA hval;obtain ⟨v0,vs0,d0,ds0,p0,q0,hargs,rfl,rfl,h0,r0⟩:=trodAll_cons hA;obtain ⟨v1,vs1,d1,ds1,p1,q1,rfl,rfl,rfl,h1,r1⟩:=trodAll_cons r0;obtain ⟨v2,vs2,d2,ds2,p2,q2,rfl,rfl,rfl,h2,r2⟩:=trodAll_cons r1;obtain ⟨rfl,rfl,rfl⟩:=trodAll_nil r2;obtain rfl:args= #[v0,v1,v2]:=by cases args;simp_all
 obtain ⟨rfl,rfl⟩:=trodVars_none hV;obtain ⟨_,g0,⟨a0,rfl,w0⟩,e0,k0⟩:=cX.argS aUx Tryz.underlying43 (hval 0 43 v0 rfl rfl) h0;obtain rfl:g0=(pvL (eQ.enc a0)).getD []:=by rw [e0];rfl
 obtain ⟨_,g1,⟨a1,rfl,w1⟩,e1,k1⟩:=cX.argS aA9 Tryz.underlying58 (hval 1 58 v1 rfl rfl) h1;obtain rfl:g1=(pvL (RT.sv [.i .i64,.i .i64,.i .i64] a1)).getD []:=by rw [e1];rfl
 obtain ⟨_,g2,⟨a2,rfl,w2⟩,e2,k2⟩:=cX.argS aA9 Tryz.underlying58 (hval 2 58 v2 rfl rfl) h2;obtain rfl:g2=(pvL (RT.sv [.i .i64,.i .i64,.i .i64] a2)).getD []:=by rw [e2];rfl
 obtain ⟨n,s,z,hrun⟩:=aI.runA aWP aOk (a:=(a0,a1,a2)) (FI a0 a1 a2 (aDD.of w0.bg.au w0.bg.az.aj)) (ps:=[.agg ((pvL (eQ.enc a0)).getD []),.agg ((pvL (RT.sv [.i .i64,.i .i64,.i .i64] a1)).getD []),.agg ((pvL (RT.sv [.i .i64,.i .i64,.i .i64] a2)).getD [])]) rfl rfl
 refine (aCX (P:=Tryz.prog) (prims:=fun _=>true) (TT.tabOK aBE) (TT.primsOK aBE) oJ hrun (us:=[v0,v1,v2]) (w:=W) (.cons _ _ _ _ k0 (.cons _ _ _ _ k1 (.cons _ _ _ _ k2 (.nil))))).mono fun e W' ⟨he,hb⟩=>?_
 subst he;exact ⟨_,rfl,aEa (P:=Tryz.prog) (bt:=4) Qk1 rfl rfl (by kernel_rfl) (by
  rw [Tryz.params4];intro t ht;simp only [List.mem_cons,List.not_mem_nil,or_false] at ht;rcases ht with rfl|rfl|rfl
  · exact aWX
  · exact aOs
  exact aOs) hW' rfl hb⟩
theorem teditPuts_holds:Rows.TeditPutsSaid:=
 OpenClaim.holds_of_wide 4 Tryz.f4 rfl rfl rfl rfl rfl rfl rfl ⟨rfl,rfl,rfl,rfl,rfl⟩ rfl rfl rfl rfl rfl (by kernel_rfl) Tryz.func4 aNU
  (of_decide_eq_true (by kernel_rfl)) (by unfold Func.isWrapper;first|(rw [if_pos (by decide+kernel)];kernel_rfl)|(rw [if_neg (by decide+kernel)];exact ⟨rfl,rfl⟩))
  (fun os started H enc _=>aNV os started H enc)
end Go.Proofs.YtogihpogmfjoiaaGreat
