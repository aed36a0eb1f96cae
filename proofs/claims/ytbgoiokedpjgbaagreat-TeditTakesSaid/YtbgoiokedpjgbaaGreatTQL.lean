/- The law TeditTakes returns true: its plain function gives true whatever comes in. -/
import Derived.Test.YtbgoiokedpjgbaaGreatRows
import Derived.Test.YtbgoiokedpjgbaaGreatTQS2
import Derived.Test.YtbgoiokedpjgbaaGreatTQM5
import Derived.Test.YtbgoiokedpjgbaaGreatTVm3
open List renaming append_nil->bm
namespace Go.Proofs.YtbgoiokedpjgbaaGreat
open Go.ChangeShapes Go.WideShapes Go.ChangeAt Go.RowKit Go.Vm
theorem aCo:cV Tryz.prog 2 (jB [.i .i64]):=cV.int Tryz.underlying2
theorem aF5:cV Tryz.prog 23 (jB [.i .i64,.i .i64]):=(cV.struct (Ks:=[(jB [.i .i64]),(jB [.i .i64])]) Tryz.underlying23 (bE.cons (by kernel_rfl) aCo (bE.cons (by kernel_rfl) aCo (bE.nil))) (by kernel_rfl)).mono (fun vs h=>qW (rs:=[[.i .i64],[.i .i64]]) h)
theorem HA:cV Tryz.prog 3 (jB [.i .i64]):=cV.int Tryz.underlying3
theorem aTZ:cV Tryz.prog 58 (jB [.i .i64,.i .i64,.i .i64]):=(cV.struct (Ks:=[(jB [.i .i64]),(jB [.i .i64]),(jB [.i .i64])]) Tryz.underlying58 (bE.cons (by kernel_rfl) HA (bE.cons (by kernel_rfl) aCo (bE.cons (by kernel_rfl) aCo (bE.nil)))) (by kernel_rfl)).mono (fun vs h=>qW (rs:=[[.i .i64],[.i .i64],[.i .i64]]) h)
theorem aT0:cV Tryz.prog 24 (W5 [.i .i64,.i .i64,.i .i64]):=cV.slice (r:=[.i .i64,.i .i64,.i .i64]) Tryz.underlying24 aTZ (by kernel_rfl) (by decide)
structure Field.WF (c:Field):Prop where
 aa: ∀a∈c.aa,RT.wf [.i .i64,.i .i64,.i .i64] a
def aCp:List SV->Prop:=fun vs=> ∃c:Field,vs=cA.enc c/\c.WF
theorem aT1:cV Tryz.prog 26 aCp:=(cV.struct (Ks:=[(W5 [.i .i64,.i .i64,.i .i64])]) Tryz.underlying26 (bE.cons (by kernel_rfl) aT0 (bE.nil)) (by kernel_rfl)).mono (by
 rintro vs ⟨_,b0,rfl,⟨c0,rfl,w0⟩,rfl⟩;refine ⟨⟨c0⟩,?_,⟨w0⟩⟩;simp only [bm]
 rfl)
theorem aNl:cV Tryz.prog 150 (jB [.i .i64,.i .i64]):=(cV.struct (Ks:=[(jB [.i .i64]),(jB [.i .i64])]) Tryz.underlying150 (bE.cons (by kernel_rfl) HA (bE.cons (by kernel_rfl) HA (bE.nil))) (by kernel_rfl)).mono (fun vs h=>qW (rs:=[[.i .i64],[.i .i64]]) h)
theorem aNm:cV Tryz.prog 152 (jB [.i .i64,.i .i64,.i .i64]):=(cV.struct (Ks:=[(jB [.i .i64]),(jB [.i .i64,.i .i64])]) Tryz.underlying152 (bE.cons (by kernel_rfl) HA (bE.cons (by kernel_rfl) aNl (bE.nil))) (by kernel_rfl)).mono (fun vs h=>qW (rs:=[[.i .i64],[.i .i64,.i .i64]]) h)
theorem aT2:cV Tryz.prog 27 (W5 [.i .i64,.i .i64,.i .i64]):=cV.slice (r:=[.i .i64,.i .i64,.i .i64]) Tryz.underlying27 aNm (by kernel_rfl) (by decide)
structure bO.WF (c:bO):Prop where
 ao:RT.wf [.i .i64] c.ao
 aq: ∀a∈c.aq,RT.wf [.i .i64,.i .i64,.i .i64] a
def aCq:List SV->Prop:=fun vs=> ∃c:bO,vs=iA.enc c/\c.WF
theorem aT3:cV Tryz.prog 29 aCq:=(cV.struct (Ks:=[(jB [.i .i64]),(W5 [.i .i64,.i .i64,.i .i64])]) Tryz.underlying29 (bE.cons (by kernel_rfl) HA (bE.cons (by kernel_rfl) aT2 (bE.nil))) (by kernel_rfl)).mono (by
 rintro vs ⟨_,b0,rfl,⟨c0,rfl,w0⟩,_,b1,rfl,⟨c1,rfl,w1⟩,rfl⟩;refine ⟨⟨c0,c1⟩,?_,⟨w0,w1⟩⟩;simp only [bm]
 rfl)
theorem QO:cV Tryz.prog 30 (W5 [.i .i64]):=cV.slice (r:=[.i .i64]) Tryz.underlying30 HA (by kernel_rfl) (by decide)
theorem aWA:cV Tryz.prog 4 (jB [.b]):=cV.bool Tryz.underlying4
theorem aT4:cV Tryz.prog 31 (W5 [.b]):=cV.slice (r:=[.b]) Tryz.underlying31 aWA (by kernel_rfl) (by decide)
structure bD.WF (c:bD):Prop where
 ac: ∀a∈c.ac,RT.wf [.i .i64] a
 ae: ∀a∈c.ae,RT.wf [.b] a
 af: ∀a∈c.af,RT.wf [.i .i64] a
def aCr:List SV->Prop:=fun vs=> ∃c:bD,vs=gT.enc c/\c.WF
theorem aT5:cV Tryz.prog 33 aCr:=(cV.struct (Ks:=[(W5 [.i .i64]),(W5 [.b]),(W5 [.i .i64])]) Tryz.underlying33 (bE.cons (by kernel_rfl) QO (bE.cons (by kernel_rfl) aT4 (bE.cons (by kernel_rfl) QO (bE.nil)))) (by kernel_rfl)).mono (by
 rintro vs ⟨_,b0,rfl,⟨c0,rfl,w0⟩,_,b1,rfl,⟨c1,rfl,w1⟩,_,b2,rfl,⟨c2,rfl,w2⟩,rfl⟩;refine ⟨⟨c0,c1,c2⟩,?_,⟨w0,w1,w2⟩⟩;simp only [bm]
 rfl)
theorem aCs:cV Tryz.prog 142 (jB [.i .i64,.i .i64]):=(cV.struct (Ks:=[(jB [.i .i64]),(jB [.i .i64])]) Tryz.underlying142 (bE.cons (by kernel_rfl) HA (bE.cons (by kernel_rfl) HA (bE.nil))) (by kernel_rfl)).mono (fun vs h=>qW (rs:=[[.i .i64],[.i .i64]]) h)
theorem aNn:cV Tryz.prog 156 (jB [.i .i64,.i .i64,.i .i64,.i .i64,.i .i64]):=(cV.struct (Ks:=[(jB [.i .i64,.i .i64]),(jB [.i .i64]),(jB [.i .i64,.i .i64])]) Tryz.underlying156 (bE.cons (by kernel_rfl) aF5 (bE.cons (by kernel_rfl) HA (bE.cons (by kernel_rfl) aCs (bE.nil)))) (by kernel_rfl)).mono (fun vs h=>qW (rs:=[[.i .i64,.i .i64],[.i .i64],[.i .i64,.i .i64]]) h)
theorem aT6:cV Tryz.prog 34 (W5 [.i .i64,.i .i64,.i .i64,.i .i64,.i .i64]):=cV.slice (r:=[.i .i64,.i .i64,.i .i64,.i .i64,.i .i64]) Tryz.underlying34 aNn (by kernel_rfl) (by decide)
structure aP.WF (c:aP):Prop where
 ai:bD.WF c.ai
 aj: ∀a∈c.aj,RT.wf [.i .i64,.i .i64,.i .i64,.i .i64,.i .i64] a
 am: ∀a∈c.am,RT.wf [.i .i64] a
def ZI:List SV->Prop:=fun vs=> ∃c:aP,vs=dN.enc c/\c.WF
theorem aT7:cV Tryz.prog 36 ZI:=(cV.struct (Ks:=[aCr,(W5 [.i .i64,.i .i64,.i .i64,.i .i64,.i .i64]),(W5 [.i .i64])]) Tryz.underlying36 (bE.cons (by kernel_rfl) aT5 (bE.cons (by kernel_rfl) aT6 (bE.cons (by kernel_rfl) QO (bE.nil)))) (by kernel_rfl)).mono (by
 rintro vs ⟨_,b0,rfl,⟨c0,rfl,w0⟩,_,b1,rfl,⟨c1,rfl,w1⟩,_,b2,rfl,⟨c2,rfl,w2⟩,rfl⟩;refine ⟨⟨c0,c1,c2⟩,?_,⟨w0,w1,w2⟩⟩;simp only [bm]
 rfl)
theorem aNo:cV Tryz.prog 144 (jB [.i .i64,.i .i64,.i .i64]):=(cV.struct (Ks:=[(jB [.i .i64]),(jB [.i .i64,.i .i64])]) Tryz.underlying144 (bE.cons (by kernel_rfl) HA (bE.cons (by kernel_rfl) aCs (bE.nil))) (by kernel_rfl)).mono (fun vs h=>qW (rs:=[[.i .i64],[.i .i64,.i .i64]]) h)
theorem aT8:cV Tryz.prog 37 (W5 [.i .i64,.i .i64,.i .i64]):=cV.slice (r:=[.i .i64,.i .i64,.i .i64]) Tryz.underlying37 aNo (by kernel_rfl) (by decide)
structure aR.WF (c:aR):Prop where
 ar:RT.wf [.i .i64,.i .i64] c.ar
 au:Field.WF c.au
 ax:bO.WF c.ax
 ay:aP.WF c.ay
 az: ∀a∈c.az,RT.wf [.i .i64,.i .i64,.i .i64] a
def aCt:List SV->Prop:=fun vs=> ∃c:aR,vs=bX.enc c/\c.WF
theorem aT9:cV Tryz.prog 39 aCt:=(cV.struct (Ks:=[(jB [.i .i64,.i .i64]),aCp,aCq,ZI,(W5 [.i .i64,.i .i64,.i .i64])]) Tryz.underlying39 (bE.cons (by kernel_rfl) aF5 (bE.cons (by kernel_rfl) aT1 (bE.cons (by kernel_rfl) aT3 (bE.cons (by kernel_rfl) aT7 (bE.cons (by kernel_rfl) aT8 (bE.nil)))))) (by kernel_rfl)).mono (by
 rintro vs ⟨_,b0,rfl,⟨c0,rfl,w0⟩,_,b1,rfl,⟨c1,rfl,w1⟩,_,b2,rfl,⟨c2,rfl,w2⟩,_,b3,rfl,⟨c3,rfl,w3⟩,_,b4,rfl,⟨c4,rfl,w4⟩,rfl⟩;refine ⟨⟨c0,c1,c2,c3,c4⟩,?_,⟨w0,w1,w2,w3,w4⟩⟩;simp only [bm]
 rfl)
structure bH.WF (c:bH):Prop where
 ba: ∀a∈c.ba,RT.wf [.i .i64] a
 bc: ∀a∈c.bc,RT.wf [.i .i64] a
def S3:List SV->Prop:=fun vs=> ∃c:bH,vs=eF.enc c/\c.WF
theorem aUa:cV Tryz.prog 41 S3:=(cV.struct (Ks:=[(W5 [.i .i64]),(W5 [.i .i64])]) Tryz.underlying41 (bE.cons (by kernel_rfl) QO (bE.cons (by kernel_rfl) QO (bE.nil))) (by kernel_rfl)).mono (by
 rintro vs ⟨_,b0,rfl,⟨c0,rfl,w0⟩,_,b1,rfl,⟨c1,rfl,w1⟩,rfl⟩;refine ⟨⟨c0,c1⟩,?_,⟨w0,w1⟩⟩;simp only [bm]
 rfl)
structure dE.WF (c:dE):Prop where
 be:aR.WF c.be
 bg:bH.WF c.bg
def aF6:List SV->Prop:=fun vs=> ∃c:dE,vs=fM.enc c/\c.WF
theorem aUb:cV Tryz.prog 43 aF6:=(cV.struct (Ks:=[aCt,S3]) Tryz.underlying43 (bE.cons (by kernel_rfl) aT9 (bE.cons (by kernel_rfl) aUa (bE.nil))) (by kernel_rfl)).mono (by
 rintro vs ⟨_,b0,rfl,⟨c0,rfl,w0⟩,_,b1,rfl,⟨c1,rfl,w1⟩,rfl⟩;refine ⟨⟨c0,c1⟩,?_,⟨w0,w1⟩⟩;simp only [bm]
 rfl)
theorem aWB:Tryz.prog.readableRec 43=true/\43<Tryz.prog.types.size:=⟨by kernel_rfl,of_decide_eq_true (by kernel_rfl)⟩
theorem aYg:Tryz.prog.readableRec 3=true/\3<Tryz.prog.types.size:=⟨by kernel_rfl,of_decide_eq_true (by kernel_rfl)⟩
theorem aYh:ownKnob Tryz.prog.godebug=none:=by kernel_rfl
theorem qO {a b:Bool} (h:a=true) (k:b=true):(a&&b)=true:=by rw [h,k];rfl
theorem Qk0:Rows.teditTakesRow.wf (OpenSpec.ofChange Rows.teditTakesSpec)=true:=by decide+kernel
theorem Qk1:laidOutB Tryz.prog=true:=by decide+kernel
theorem Qk2:mapsRowed Tryz.prog=true:=by decide+kernel
theorem Qk3:Tryz.f3.params.all (Tryz.prog.readableRec ·)=true:=by decide+kernel
theorem Qk4:namedTie Tryz.prog Rows.teditTakesRow.named Rows.teditTakesSpec.vars=true:=by decide+kernel
theorem Qk5:(Rows.teditTakesRow.stops==[])=true:=by decide+kernel
theorem Qk6:(Tryz.prog.stops==[])=true:=by decide+kernel
theorem Qk7:(Rows.teditTakesRow.knobs==[])=true:=by decide+kernel
theorem Qk8:(Tryz.prog.stopKnobs==[])=true:=by decide+kernel
theorem Qk9:(Rows.teditTakesRow.inPlace==Tryz.prog.inPlace 3)=true:=by decide+kernel
theorem aYi:(Rows.teditTakesRow.unfollowed==Tryz.prog.unfollowed 3)=true:=by decide+kernel
theorem aYj:(Rows.teditTakesRow.recurses==Tryz.prog.recurses 3)=true:=by decide+kernel
theorem aYk:(Rows.teditTakesRow.named==Tryz.prog.varsNamed 3)=true:=by decide+kernel
theorem aYl:(Rows.teditTakesRow.maps==(Tryz.f3.params.toList++Rows.teditTakesSpec.plain.varTypes Tryz.prog).any (Tryz.prog.mapsRec ·))=true:=by decide+kernel
theorem aYm:(Rows.teditTakesRow.ifaces==(Tryz.f3.params.toList++Rows.teditTakesSpec.plain.varTypes Tryz.prog).any (Tryz.prog.ifacesRec ·))=true:=by decide+kernel
theorem aYn:(Rows.teditTakesRow.mapsOut==Tryz.prog.mapsAmong Tryz.f3.resultTypes.toList)=true:=by decide+kernel
theorem aYo:(Rows.teditTakesRow.loops==(Tryz.f3.params.toList++Rows.teditTakesSpec.plain.varTypes Tryz.prog).any (Tryz.prog.loopsFrom ·))=true:=by decide+kernel
theorem aYp:(Rows.teditTakesRow.wideKeys==(Tryz.f3.params.toList++Rows.teditTakesSpec.plain.varTypes Tryz.prog++Tryz.f3.resultTypes.toList).any (Tryz.prog.wideKeysFrom ·))=true:=by decide+kernel
theorem aYq:Rows.teditTakesSpec.vars.all (Tryz.prog.varReadable ·)=true:=by decide+kernel
theorem aYr:Tryz.f3.resultTypes.all (fun t=>Tryz.prog.readableRec t&&decide (t<Tryz.prog.types.size))=true:=by decide+kernel
theorem aYs:(Rows.teditTakesRow.ifacesOut==Tryz.f3.resultTypes.toList.any (Tryz.prog.ifacesRec ·))=true:=by decide+kernel
theorem aYt:(Rows.teditTakesRow.loopsOut==Tryz.f3.resultTypes.toList.any (Tryz.prog.loopsFrom ·))=true:=by decide+kernel
theorem aYu:(Rows.teditTakesRow.plainKeys==Tryz.prog.plainKeys)=true:=by decide+kernel
theorem aYv:Rows.teditTakesRow.shortTexts.isNone=true:=by decide+kernel
theorem aYw:Tryz.prog.stopsHeard=true:=by decide+kernel
theorem aYx:Tryz.prog.mayEnter=true:=by decide+kernel
theorem aYy:(Rows.teditTakesRow.lifted==Tryz.prog.liftsFinal)=true:=by decide+kernel
theorem aYz:(Tryz.prog.make==some Rows.teditTakesRow.make)=true:=by decide+kernel
theorem aYA:(Rows.teditTakesRow.kinds==(if Rows.teditTakesRow.domain.isEmpty then [] else Tryz.f3.params.toList.map fun t=>match Tryz.prog.underlying t with|some (.int k)=>some k|_=>none))=true:=by decide+kernel
theorem aYB:(Rows.teditTakesRow.pinned==Rows.teditTakesRow.pinnedBy)=true:=by decide+kernel
theorem aYC:(Rows.teditTakesRow.veiled==(Tryz.f3.params.toList++Rows.teditTakesSpec.plain.varTypes Tryz.prog++Tryz.f3.resultTypes.toList).any (Tryz.prog.veiledRec ·))=true:=by decide+kernel
theorem aYD:Rows.teditTakesRow.veiledFits Tryz.prog Tryz.f3.params.toList (Tryz.f3.params.toList++Rows.teditTakesSpec.plain.varTypes Tryz.prog++Tryz.f3.resultTypes.toList)=true:=by decide+kernel
set_option maxRecDepth 100000 in
theorem aNp:joinedFacts Tryz.prog 3 Tryz.f3 Rows.teditTakesSpec Rows.teditTakesRow=true:=(qO (qO (qO (qO (qO (qO (qO (qO (qO (qO (qO (qO (qO (qO (qO (qO (qO (qO (qO (qO (qO (qO (qO (qO (qO (qO (qO (qO (qO (qO (qO Qk0 Qk1) Qk2) Qk3) Qk4) Qk5) Qk6) Qk7) Qk8) Qk9) aYi) aYj) aYk) aYl) aYm) aYn) aYo) aYp) aYq) aYr) aYs) aYt) aYu) aYv) aYw) aYx) aYy) aYz) aYA) aYB) aYC) aYD)
set_option maxRecDepth 100000 in
theorem aNq (os:Os) (started:os.Started) (H:Type) (enc:TypeId×Value->H):
 ReturnsInHanded {} Tryz.checked os 3 .any (Rows.teditTakesSpec.pre6 enc Tryz.prog Tryz.f3 Rows.teditTakesRow.domain false) (Rows.teditTakesSpec.post enc Tryz.prog Tryz.f3 false true false false):=by
 refine returnsInHanded_of_change (C:=Tryz.checked) aYh started (by kernel_rfl) Tryz.func3
  (ChangeSpec.witness6 (enc:=enc) (C:=Tryz.checked) false ⟨#[],#[.agg #[.int .i64 0,.int .i64 0,.slice none 0 0,.int .i64 0,.slice none 0 0,.slice none 0 0,.slice none 0 0,.slice none 0 0,.slice none 0 0,.slice none 0 0,.slice none 0 0,.slice none 0 0,.slice none 0 0],.int .i64 0],[]⟩ 16 (by kernel_rfl) (by kernel_rfl) (by kernel_rfl) (by kernel_rfl)) ?_
 intro W base args ds gs before hval0 hW hcnd _;have hval: ∀(j:Nat) t v,Tryz.f3.params[j]? =some t->args[j]? =some v->Value.okWide Tryz.prog W .any base t v:=hval0;have hW':=hW;obtain ⟨p,q,hA0,hV,rfl,hfz,hnd⟩:=hW;have hA:DataW.TrodAll enc Tryz.prog W 0 (fun _=>true) true Tryz.f3.params.toList args.toList ds p:=hA0
 rw [Tryz.params3] at hA hval;obtain ⟨v0,vs0,d0,ds0,p0,q0,hargs,rfl,rfl,h0,r0⟩:=trodAll_cons hA;obtain ⟨v1,vs1,d1,ds1,p1,q1,rfl,rfl,rfl,h1,r1⟩:=trodAll_cons r0;obtain ⟨rfl,rfl,rfl⟩:=trodAll_nil r1;obtain rfl:args= #[v0,v1]:=by cases args;simp_all
 obtain ⟨rfl,rfl⟩:=trodVars_none hV;obtain ⟨_,g0,⟨a0,rfl,w0⟩,e0,k0⟩:=cV.argS aUb Tryz.underlying43 (hval 0 43 v0 rfl rfl) h0;obtain rfl:g0=(pvL (fM.enc a0)).getD []:=by rw [e0];rfl
 obtain ⟨a1,w1,k1⟩:=cV.argI Tryz.underlying3 (hval 1 3 v1 rfl rfl) h1;obtain ⟨n,s,z,hrun⟩:=aI.runA aWt aNO (a:=(a0,a1)) (D1 a0 a1 (aAX.of w0.be.ar w0.be.ay.aj)) (ps:=[.agg ((pvL (fM.enc a0)).getD []),.int .i64 a1]) rfl rfl
 refine (aCN (P:=Tryz.prog) (prims:=fun _=>true) (TT.tabOK aBB) (TT.primsOK aBB) oA hrun (us:=[v0,v1]) (w:=W) (.cons _ _ _ _ k0 (.cons _ _ _ _ k1 (.nil)))).mono fun e W' ⟨he,hb⟩=>?_
 subst he;exact ⟨_,rfl,aD6 (P:=Tryz.prog) (bt:=4) Qk1 rfl rfl (by kernel_rfl) (by
  rw [Tryz.params3];intro t ht;simp only [List.mem_cons,List.not_mem_nil,or_false] at ht;rcases ht with rfl|rfl
  · exact aWB
  exact aYg) hW' rfl hb⟩
theorem teditTakes_holds:Rows.TeditTakesSaid:=
 OpenClaim.holds_of_wide 3 Tryz.f3 rfl rfl rfl rfl rfl rfl rfl ⟨rfl,rfl,rfl,rfl,rfl⟩ rfl rfl rfl rfl rfl (by kernel_rfl) Tryz.func3 aNp
  (of_decide_eq_true (by kernel_rfl)) (by unfold Func.isWrapper;first|(rw [if_pos (by decide+kernel)];kernel_rfl)|(rw [if_neg (by decide+kernel)];exact ⟨rfl,rfl⟩))
  (fun os started H enc _=>aNq os started H enc)
end Go.Proofs.YtbgoiokedpjgbaaGreat
