/- The law KtournBuilds returns true: its plain function gives true whatever comes in. -/
import Derived.Test.YtlnclppkepgdmaaGreatRows
import Derived.Test.YtlnclppkepgdmaaGreatAQS2
import Derived.Test.YtlnclppkepgdmaaGreatAQM5
import Derived.Test.YtlnclppkepgdmaaGreatAVm3
namespace Go.Proofs.YtlnclppkepgdmaaGreat
open Go.ChangeShapes Go.WideShapes Go.ChangeAt Go.RowKit Go.Vm
theorem G3:cT Tryz.prog 3 (iX [.i .i64]):=cT.int Tryz.underlying3
theorem aCB:cT Tryz.prog 2 (iX [.i .i64]):=cT.int Tryz.underlying2
theorem aT3:cT Tryz.prog 78 (iX [.i .i64,.i .i64,.i .i64]):=(cT.struct (Ks:=[(iX [.i .i64]),(iX [.i .i64]),(iX [.i .i64])]) Tryz.underlying78 (bD.cons (by kernel_rfl) G3 (bD.cons (by kernel_rfl) aCB (bD.cons (by kernel_rfl) aCB (bD.nil)))) (by kernel_rfl)).mono (fun vs h=>qR (rs:=[[.i .i64],[.i .i64],[.i .i64]]) h)
theorem aT4:cT Tryz.prog 24 (XE [.i .i64,.i .i64,.i .i64]):=cT.slice (r:=[.i .i64,.i .i64,.i .i64]) Tryz.underlying24 aT3 (by kernel_rfl) (by decide)
structure Field.WF (c:Field):Prop where
 points: ∀a∈c.points,RT.wf [.i .i64,.i .i64,.i .i64] a
def aCC:List SV->Prop:=fun vs=> ∃c:Field,vs=bR.enc c/\c.WF
theorem aF8:cT Tryz.prog 26 aCC:=(cT.struct (Ks:=[(XE [.i .i64,.i .i64,.i .i64])]) Tryz.underlying26 (bD.cons (by kernel_rfl) aT4 (bD.nil)) (by kernel_rfl)).mono (by
 rintro vs ⟨_,b0,rfl,⟨c0,rfl,w0⟩,rfl⟩;refine ⟨⟨c0⟩,?_,⟨w0⟩⟩;simp only [List.append_nil]
 rfl)
theorem aBg:cT Tryz.prog 23 (iX [.i .i64,.i .i64]):=(cT.struct (Ks:=[(iX [.i .i64]),(iX [.i .i64])]) Tryz.underlying23 (bD.cons (by kernel_rfl) aCB (bD.cons (by kernel_rfl) aCB (bD.nil))) (by kernel_rfl)).mono (fun vs h=>qR (rs:=[[.i .i64],[.i .i64]]) h)
theorem aT5:cT Tryz.prog 88 (iX [.i .i64,.i .i64]):=(cT.struct (Ks:=[(iX [.i .i64]),(iX [.i .i64])]) Tryz.underlying88 (bD.cons (by kernel_rfl) G3 (bD.cons (by kernel_rfl) G3 (bD.nil))) (by kernel_rfl)).mono (fun vs h=>qR (rs:=[[.i .i64],[.i .i64]]) h)
theorem aNv:cT Tryz.prog 197 (iX [.i .i64,.i .i64,.i .i64]):=(cT.struct (Ks:=[(iX [.i .i64]),(iX [.i .i64,.i .i64])]) Tryz.underlying197 (bD.cons (by kernel_rfl) G3 (bD.cons (by kernel_rfl) aT5 (bD.nil))) (by kernel_rfl)).mono (fun vs h=>qR (rs:=[[.i .i64],[.i .i64,.i .i64]]) h)
theorem aT6:cT Tryz.prog 27 (XE [.i .i64,.i .i64,.i .i64]):=cT.slice (r:=[.i .i64,.i .i64,.i .i64]) Tryz.underlying27 aNv (by kernel_rfl) (by decide)
structure bI.WF (c:bI):Prop where
 next_:RT.wf [.i .i64] c.next_
 list: ∀a∈c.list,RT.wf [.i .i64,.i .i64,.i .i64] a
def aCD:List SV->Prop:=fun vs=> ∃c:bI,vs=hO.enc c/\c.WF
theorem aT7:cT Tryz.prog 29 aCD:=(cT.struct (Ks:=[(iX [.i .i64]),(XE [.i .i64,.i .i64,.i .i64])]) Tryz.underlying29 (bD.cons (by kernel_rfl) G3 (bD.cons (by kernel_rfl) aT6 (bD.nil))) (by kernel_rfl)).mono (by
 rintro vs ⟨_,b0,rfl,⟨c0,rfl,w0⟩,_,b1,rfl,⟨c1,rfl,w1⟩,rfl⟩;refine ⟨⟨c0,c1⟩,?_,⟨w0,w1⟩⟩;simp only [List.append_nil]
 rfl)
theorem QR:cT Tryz.prog 30 (XE [.i .i64]):=cT.slice (r:=[.i .i64]) Tryz.underlying30 G3 (by kernel_rfl) (by decide)
theorem aWF:cT Tryz.prog 4 (iX [.b]):=cT.bool Tryz.underlying4
theorem aT8:cT Tryz.prog 31 (XE [.b]):=cT.slice (r:=[.b]) Tryz.underlying31 aWF (by kernel_rfl) (by decide)
structure aV.WF (c:aV):Prop where
 uses: ∀a∈c.uses,RT.wf [.i .i64] a
 used: ∀a∈c.used,RT.wf [.b] a
 free: ∀a∈c.free,RT.wf [.i .i64] a
def aCE:List SV->Prop:=fun vs=> ∃c:aV,vs=gC.enc c/\c.WF
theorem aT9:cT Tryz.prog 33 aCE:=(cT.struct (Ks:=[(XE [.i .i64]),(XE [.b]),(XE [.i .i64])]) Tryz.underlying33 (bD.cons (by kernel_rfl) QR (bD.cons (by kernel_rfl) aT8 (bD.cons (by kernel_rfl) QR (bD.nil)))) (by kernel_rfl)).mono (by
 rintro vs ⟨_,b0,rfl,⟨c0,rfl,w0⟩,_,b1,rfl,⟨c1,rfl,w1⟩,_,b2,rfl,⟨c2,rfl,w2⟩,rfl⟩;refine ⟨⟨c0,c1,c2⟩,?_,⟨w0,w1,w2⟩⟩;simp only [List.append_nil]
 rfl)
theorem aCF:cT Tryz.prog 106 (iX [.i .i64,.i .i64]):=(cT.struct (Ks:=[(iX [.i .i64]),(iX [.i .i64])]) Tryz.underlying106 (bD.cons (by kernel_rfl) G3 (bD.cons (by kernel_rfl) G3 (bD.nil))) (by kernel_rfl)).mono (fun vs h=>qR (rs:=[[.i .i64],[.i .i64]]) h)
theorem aNw:cT Tryz.prog 108 (iX [.i .i64,.i .i64,.i .i64,.i .i64,.i .i64]):=(cT.struct (Ks:=[(iX [.i .i64,.i .i64]),(iX [.i .i64]),(iX [.i .i64,.i .i64])]) Tryz.underlying108 (bD.cons (by kernel_rfl) aBg (bD.cons (by kernel_rfl) G3 (bD.cons (by kernel_rfl) aCF (bD.nil)))) (by kernel_rfl)).mono (fun vs h=>qR (rs:=[[.i .i64,.i .i64],[.i .i64],[.i .i64,.i .i64]]) h)
theorem aUa:cT Tryz.prog 34 (XE [.i .i64,.i .i64,.i .i64,.i .i64,.i .i64]):=cT.slice (r:=[.i .i64,.i .i64,.i .i64,.i .i64,.i .i64]) Tryz.underlying34 aNw (by kernel_rfl) (by decide)
structure aO.WF (c:aO):Prop where
 slots:aV.WF c.slots
 heap: ∀a∈c.heap,RT.wf [.i .i64,.i .i64,.i .i64,.i .i64,.i .i64] a
 where_: ∀a∈c.where_,RT.wf [.i .i64] a
def ZJ:List SV->Prop:=fun vs=> ∃c:aO,vs=dE.enc c/\c.WF
theorem aUb:cT Tryz.prog 36 ZJ:=(cT.struct (Ks:=[aCE,(XE [.i .i64,.i .i64,.i .i64,.i .i64,.i .i64]),(XE [.i .i64])]) Tryz.underlying36 (bD.cons (by kernel_rfl) aT9 (bD.cons (by kernel_rfl) aUa (bD.cons (by kernel_rfl) QR (bD.nil)))) (by kernel_rfl)).mono (by
 rintro vs ⟨_,b0,rfl,⟨c0,rfl,w0⟩,_,b1,rfl,⟨c1,rfl,w1⟩,_,b2,rfl,⟨c2,rfl,w2⟩,rfl⟩;refine ⟨⟨c0,c1,c2⟩,?_,⟨w0,w1,w2⟩⟩;simp only [List.append_nil]
 rfl)
theorem aNx:cT Tryz.prog 141 (iX [.i .i64,.i .i64,.i .i64]):=(cT.struct (Ks:=[(iX [.i .i64]),(iX [.i .i64,.i .i64])]) Tryz.underlying141 (bD.cons (by kernel_rfl) G3 (bD.cons (by kernel_rfl) aCF (bD.nil))) (by kernel_rfl)).mono (fun vs h=>qR (rs:=[[.i .i64],[.i .i64,.i .i64]]) h)
theorem aUc:cT Tryz.prog 37 (XE [.i .i64,.i .i64,.i .i64]):=cT.slice (r:=[.i .i64,.i .i64,.i .i64]) Tryz.underlying37 aNx (by kernel_rfl) (by decide)
structure aQ.WF (c:aQ):Prop where
 now:RT.wf [.i .i64,.i .i64] c.now
 field:Field.WF c.field
 certs:bI.WF c.certs
 agenda:aO.WF c.agenda
 due: ∀a∈c.due,RT.wf [.i .i64,.i .i64,.i .i64] a
def aCG:List SV->Prop:=fun vs=> ∃c:aQ,vs=bV.enc c/\c.WF
theorem aUd:cT Tryz.prog 39 aCG:=(cT.struct (Ks:=[(iX [.i .i64,.i .i64]),aCC,aCD,ZJ,(XE [.i .i64,.i .i64,.i .i64])]) Tryz.underlying39 (bD.cons (by kernel_rfl) aBg (bD.cons (by kernel_rfl) aF8 (bD.cons (by kernel_rfl) aT7 (bD.cons (by kernel_rfl) aUb (bD.cons (by kernel_rfl) aUc (bD.nil)))))) (by kernel_rfl)).mono (by
 rintro vs ⟨_,b0,rfl,⟨c0,rfl,w0⟩,_,b1,rfl,⟨c1,rfl,w1⟩,_,b2,rfl,⟨c2,rfl,w2⟩,_,b3,rfl,⟨c3,rfl,w3⟩,_,b4,rfl,⟨c4,rfl,w4⟩,rfl⟩;refine ⟨⟨c0,c1,c2,c3,c4⟩,?_,⟨w0,w1,w2,w3,w4⟩⟩;simp only [List.append_nil]
 rfl)
structure bH.WF (c:bH):Prop where
 places: ∀a∈c.places,RT.wf [.i .i64] a
 wins: ∀a∈c.wins,RT.wf [.i .i64] a
def TA:List SV->Prop:=fun vs=> ∃c:bH,vs=fW.enc c/\c.WF
theorem aUe:cT Tryz.prog 41 TA:=(cT.struct (Ks:=[(XE [.i .i64]),(XE [.i .i64])]) Tryz.underlying41 (bD.cons (by kernel_rfl) QR (bD.cons (by kernel_rfl) QR (bD.nil))) (by kernel_rfl)).mono (by
 rintro vs ⟨_,b0,rfl,⟨c0,rfl,w0⟩,_,b1,rfl,⟨c1,rfl,w1⟩,rfl⟩;refine ⟨⟨c0,c1⟩,?_,⟨w0,w1⟩⟩;simp only [List.append_nil]
 rfl)
structure dV.WF (c:dV):Prop where
 clock:aQ.WF c.clock
 bracket:bH.WF c.bracket
def aF9:List SV->Prop:=fun vs=> ∃c:dV,vs=hZ.enc c/\c.WF
theorem aUf:cT Tryz.prog 43 aF9:=(cT.struct (Ks:=[aCG,TA]) Tryz.underlying43 (bD.cons (by kernel_rfl) aUd (bD.cons (by kernel_rfl) aUe (bD.nil))) (by kernel_rfl)).mono (by
 rintro vs ⟨_,b0,rfl,⟨c0,rfl,w0⟩,_,b1,rfl,⟨c1,rfl,w1⟩,rfl⟩;refine ⟨⟨c0,c1⟩,?_,⟨w0,w1⟩⟩;simp only [List.append_nil]
 rfl)
theorem aWG:Tryz.prog.readableRec 26=true/\26<Tryz.prog.types.size:=⟨by kernel_rfl,of_decide_eq_true (by kernel_rfl)⟩
theorem aWH:Tryz.prog.readableRec 23=true/\23<Tryz.prog.types.size:=⟨by kernel_rfl,of_decide_eq_true (by kernel_rfl)⟩
theorem aWI:Tryz.prog.readableRec 43=true/\43<Tryz.prog.types.size:=⟨by kernel_rfl,of_decide_eq_true (by kernel_rfl)⟩
theorem aYm:ownKnob Tryz.prog.godebug=none:=by kernel_rfl
theorem qJ {a b:Bool} (h:a=true) (k:b=true):(a&&b)=true:=by rw [h,k];rfl
theorem Qk0:Rows.ktournBuildsRow.wf (OpenSpec.ofChange Rows.ktournBuildsSpec)=true:=by decide+kernel
theorem Qk1:laidOutB Tryz.prog=true:=by decide+kernel
theorem Qk2:mapsRowed Tryz.prog=true:=by decide+kernel
theorem Qk3:Tryz.f4.params.all (Tryz.prog.readableRec ·)=true:=by decide+kernel
theorem Qk4:namedTie Tryz.prog Rows.ktournBuildsRow.named Rows.ktournBuildsSpec.vars=true:=by decide+kernel
theorem Qk5:(Rows.ktournBuildsRow.stops==[])=true:=by decide+kernel
theorem Qk6:(Tryz.prog.stops==[])=true:=by decide+kernel
theorem Qk7:(Rows.ktournBuildsRow.knobs==[])=true:=by decide+kernel
theorem Qk8:(Tryz.prog.stopKnobs==[])=true:=by decide+kernel
theorem Qk9:(Rows.ktournBuildsRow.inPlace==Tryz.prog.inPlace 4)=true:=by decide+kernel
theorem aYn:(Rows.ktournBuildsRow.unfollowed==Tryz.prog.unfollowed 4)=true:=by decide+kernel
theorem aYo:(Rows.ktournBuildsRow.recurses==Tryz.prog.recurses 4)=true:=by decide+kernel
theorem aYp:(Rows.ktournBuildsRow.named==Tryz.prog.varsNamed 4)=true:=by decide+kernel
theorem aYq:(Rows.ktournBuildsRow.maps==(Tryz.f4.params.toList++Rows.ktournBuildsSpec.plain.varTypes Tryz.prog).any (Tryz.prog.mapsRec ·))=true:=by decide+kernel
theorem aYr:(Rows.ktournBuildsRow.ifaces==(Tryz.f4.params.toList++Rows.ktournBuildsSpec.plain.varTypes Tryz.prog).any (Tryz.prog.ifacesRec ·))=true:=by decide+kernel
theorem aYs:(Rows.ktournBuildsRow.mapsOut==Tryz.prog.mapsAmong Tryz.f4.resultTypes.toList)=true:=by decide+kernel
theorem aYt:(Rows.ktournBuildsRow.loops==(Tryz.f4.params.toList++Rows.ktournBuildsSpec.plain.varTypes Tryz.prog).any (Tryz.prog.loopsFrom ·))=true:=by decide+kernel
theorem aYu:(Rows.ktournBuildsRow.wideKeys==(Tryz.f4.params.toList++Rows.ktournBuildsSpec.plain.varTypes Tryz.prog++Tryz.f4.resultTypes.toList).any (Tryz.prog.wideKeysFrom ·))=true:=by decide+kernel
theorem aYv:Rows.ktournBuildsSpec.vars.all (Tryz.prog.varReadable ·)=true:=by decide+kernel
theorem aYw:Tryz.f4.resultTypes.all (fun t=>Tryz.prog.readableRec t&&decide (t<Tryz.prog.types.size))=true:=by decide+kernel
theorem aYx:(Rows.ktournBuildsRow.ifacesOut==Tryz.f4.resultTypes.toList.any (Tryz.prog.ifacesRec ·))=true:=by decide+kernel
theorem aYy:(Rows.ktournBuildsRow.loopsOut==Tryz.f4.resultTypes.toList.any (Tryz.prog.loopsFrom ·))=true:=by decide+kernel
theorem aYz:(Rows.ktournBuildsRow.plainKeys==Tryz.prog.plainKeys)=true:=by decide+kernel
theorem aYA:Rows.ktournBuildsRow.shortTexts.isNone=true:=by decide+kernel
theorem aYB:Tryz.prog.stopsHeard=true:=by decide+kernel
theorem aYC:Tryz.prog.mayEnter=true:=by decide+kernel
theorem aYD:(Rows.ktournBuildsRow.lifted==Tryz.prog.liftsFinal)=true:=by decide+kernel
theorem aYE:(Tryz.prog.make==some Rows.ktournBuildsRow.make)=true:=by decide+kernel
theorem aYF:(Rows.ktournBuildsRow.kinds==(if Rows.ktournBuildsRow.domain.isEmpty then [] else Tryz.f4.params.toList.map fun t=>match Tryz.prog.underlying t with|some (.int k)=>some k|_=>none))=true:=by decide+kernel
theorem aYG:(Rows.ktournBuildsRow.pinned==Rows.ktournBuildsRow.pinnedBy)=true:=by decide+kernel
theorem aYH:(Rows.ktournBuildsRow.veiled==(Tryz.f4.params.toList++Rows.ktournBuildsSpec.plain.varTypes Tryz.prog++Tryz.f4.resultTypes.toList).any (Tryz.prog.veiledRec ·))=true:=by decide+kernel
theorem aYI:Rows.ktournBuildsRow.veiledFits Tryz.prog Tryz.f4.params.toList (Tryz.f4.params.toList++Rows.ktournBuildsSpec.plain.varTypes Tryz.prog++Tryz.f4.resultTypes.toList)=true:=by decide+kernel
set_option maxRecDepth 100000 in
theorem aNy:joinedFacts Tryz.prog 4 Tryz.f4 Rows.ktournBuildsSpec Rows.ktournBuildsRow=true:=(qJ (qJ (qJ (qJ (qJ (qJ (qJ (qJ (qJ (qJ (qJ (qJ (qJ (qJ (qJ (qJ (qJ (qJ (qJ (qJ (qJ (qJ (qJ (qJ (qJ (qJ (qJ (qJ (qJ (qJ (qJ Qk0 Qk1) Qk2) Qk3) Qk4) Qk5) Qk6) Qk7) Qk8) Qk9) aYn) aYo) aYp) aYq) aYr) aYs) aYt) aYu) aYv) aYw) aYx) aYy) aYz) aYA) aYB) aYC) aYD) aYE) aYF) aYG) aYH) aYI)
set_option maxRecDepth 100000 in
theorem aNz (os:Os) (started:os.Started) (H:Type) (enc:TypeId×Value->H):
 ReturnsInHanded {} Tryz.checked os 4 .any (Rows.ktournBuildsSpec.pre6 enc Tryz.prog Tryz.f4 Rows.ktournBuildsRow.domain false) (Rows.ktournBuildsSpec.post enc Tryz.prog Tryz.f4 false true false false):=by
 refine returnsInHanded_of_change (C:=Tryz.checked) aYm started (by kernel_rfl) Tryz.func4
  (ChangeSpec.witness6 (enc:=enc) (C:=Tryz.checked) false ⟨#[],#[.agg #[.slice none 0 0],.agg #[.int .i64 0,.int .i64 0],.agg #[.int .i64 0,.int .i64 0,.slice none 0 0,.int .i64 0,.slice none 0 0,.slice none 0 0,.slice none 0 0,.slice none 0 0,.slice none 0 0,.slice none 0 0,.slice none 0 0,.slice none 0 0,.slice none 0 0]],[]⟩ 16 (by kernel_rfl) (by kernel_rfl) (by kernel_rfl) (by kernel_rfl)) ?_
 intro W base args ds gs before hval0 hW hcnd _;have hval: ∀(j:Nat) t v,Tryz.f4.params[j]? =some t->args[j]? =some v->Value.okWide Tryz.prog W .any base t v:=hval0;have hW':=hW;obtain ⟨p,q,hA0,hV,rfl,hfz,hnd⟩:=hW;have hA:DataW.TrodAll enc Tryz.prog W 0 (fun _=>true) true Tryz.f4.params.toList args.toList ds p:=hA0
 rw [Tryz.params4] at hA hval;obtain ⟨v0,vs0,d0,ds0,p0,q0,hargs,rfl,rfl,h0,r0⟩:=trodAll_cons hA;obtain ⟨v1,vs1,d1,ds1,p1,q1,rfl,rfl,rfl,h1,r1⟩:=trodAll_cons r0;obtain ⟨v2,vs2,d2,ds2,p2,q2,rfl,rfl,rfl,h2,r2⟩:=trodAll_cons r1;obtain ⟨rfl,rfl,rfl⟩:=trodAll_nil r2;obtain rfl:args= #[v0,v1,v2]:=by cases args;simp_all
 obtain ⟨rfl,rfl⟩:=trodVars_none hV;obtain ⟨_,g0,⟨a0,rfl,w0⟩,e0,k0⟩:=cT.argS aF8 Tryz.underlying26 (hval 0 26 v0 rfl rfl) h0;obtain rfl:g0=(pvL (bR.enc a0)).getD []:=by rw [e0];rfl
 obtain ⟨_,g1,⟨a1,rfl,w1⟩,e1,k1⟩:=cT.argS aBg Tryz.underlying23 (hval 1 23 v1 rfl rfl) h1;obtain rfl:g1=(pvL (RT.sv [.i .i64,.i .i64] a1)).getD []:=by rw [e1];rfl
 obtain ⟨_,g2,⟨a2,rfl,w2⟩,e2,k2⟩:=cT.argS aUf Tryz.underlying43 (hval 2 43 v2 rfl rfl) h2;obtain rfl:g2=(pvL (hZ.enc a2)).getD []:=by rw [e2];rfl
 obtain ⟨n,s,z,hrun⟩:=aI.runA aWz aNX (a:=(a0,a1,a2)) (BW a0 a1 a2 ⟨KY w1.1,KY w1.2⟩ (aFU.of w2.clock.now w2.clock.agenda.heap)) (ps:=[.agg ((pvL (bR.enc a0)).getD []),.agg ((pvL (RT.sv [.i .i64,.i .i64] a1)).getD []),.agg ((pvL (hZ.enc a2)).getD [])]) rfl rfl
 refine (aC1 (P:=Tryz.prog) (prims:=fun _=>true) (TT.tabOK aBL) (TT.primsOK aBL) nT hrun (us:=[v0,v1,v2]) (w:=W) (.cons _ _ _ _ k0 (.cons _ _ _ _ k1 (.cons _ _ _ _ k2 (.nil))))).mono fun e W' ⟨he,hb⟩=>?_
 subst he;exact ⟨_,rfl,aEd (P:=Tryz.prog) (bt:=4) Qk1 rfl rfl (by kernel_rfl) (by
  rw [Tryz.params4];intro t ht;simp only [List.mem_cons,List.not_mem_nil,or_false] at ht;rcases ht with rfl|rfl|rfl
  · exact aWG
  · exact aWH
  · exact aWI) hW' rfl hb⟩
theorem ktournBuilds_holds:Rows.KtournBuildsSaid:=
 OpenClaim.holds_of_wide 4 Tryz.f4 rfl rfl rfl rfl rfl rfl rfl ⟨rfl,rfl,rfl,rfl,rfl⟩ rfl rfl rfl rfl rfl (by kernel_rfl) Tryz.func4 aNy
  (of_decide_eq_true (by kernel_rfl)) (by unfold Func.isWrapper;first|(rw [if_pos (by decide+kernel)];kernel_rfl)|(rw [if_neg (by decide+kernel)];exact ⟨rfl,rfl⟩))
  (fun os started H enc _=>aNz os started H enc)
end Go.Proofs.YtlnclppkepgdmaaGreat
