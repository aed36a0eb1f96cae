/- The law HeaterEvents returns true: its plain function gives true whatever comes in. -/
import Derived.Test.YthljmpcakagceaaGreatRows
import Derived.Test.YthljmpcakagceaaGreatHQTB
import Derived.Test.YthljmpcakagceaaGreatHQM4
import Derived.Test.YthljmpcakagceaaGreatHVm3
open List renaming append_nil->v6
open Option renaming none->ww
open Bool renaming true->AC
namespace Go.Proofs.YthljmpcakagceaaGreat
open Go.ChangeShapes Go.WideShapes Go.ChangeAt Go.RowKit Go.Vm
theorem OA:bN Tryz.prog 2 (fK [.i .i64]):=bN.int Tryz.underlying2
theorem IX:bN Tryz.prog 26 (fK [.i .i64,.i .i64]):=(bN.struct (Ks:=[(fK [.i .i64]),(fK [.i .i64])]) Tryz.underlying26 (aY.cons (by kernel_rfl) OA (aY.cons (by kernel_rfl) OA (aY.nil))) (by kernel_rfl)).mono (fun vs h=>lL (rs:=[[.i .i64],[.i .i64]]) h)
theorem tq:bN Tryz.prog 3 (fK [.i .i64]):=bN.int Tryz.underlying3
theorem agW:bN Tryz.prog 64 (fK [.i .i64,.i .i64,.i .i64]):=(bN.struct (Ks:=[(fK [.i .i64]),(fK [.i .i64]),(fK [.i .i64])]) Tryz.underlying64 (aY.cons (by kernel_rfl) tq (aY.cons (by kernel_rfl) OA (aY.cons (by kernel_rfl) OA (aY.nil)))) (by kernel_rfl)).mono (fun vs h=>lL (rs:=[[.i .i64],[.i .i64],[.i .i64]]) h)
theorem agX:bN Tryz.prog 22 (Ke [.i .i64,.i .i64,.i .i64]):=bN.slice (r:=[.i .i64,.i .i64,.i .i64]) Tryz.underlying22 agW (by kernel_rfl) (by decide)
structure Field.WF (c:Field):Prop where
 am: ∀a∈c.am,RT.wf [.i .i64,.i .i64,.i .i64] a
def OB:List SV->Prop:=fun vs=> ∃c:Field,vs=cO.enc c/\c.WF
theorem agY:bN Tryz.prog 24 OB:=(bN.struct (Ks:=[(Ke [.i .i64,.i .i64,.i .i64])]) Tryz.underlying24 (aY.cons (by kernel_rfl) agX (aY.nil)) (by kernel_rfl)).mono (by rintro vs ⟨_,b0,rfl,⟨c0,rfl,w0⟩,rfl⟩;refine ⟨⟨c0⟩,?_,⟨w0⟩⟩;simp only [v6];rfl)
theorem agZ:bN Tryz.prog 66 (fK [.i .i64,.i .i64]):=(bN.struct (Ks:=[(fK [.i .i64]),(fK [.i .i64])]) Tryz.underlying66 (aY.cons (by kernel_rfl) tq (aY.cons (by kernel_rfl) tq (aY.nil))) (by kernel_rfl)).mono (fun vs h=>lL (rs:=[[.i .i64],[.i .i64]]) h)
theorem aad:bN Tryz.prog 197 (fK [.i .i64,.i .i64,.i .i64]):=(bN.struct (Ks:=[(fK [.i .i64]),(fK [.i .i64,.i .i64])]) Tryz.underlying197 (aY.cons (by kernel_rfl) tq (aY.cons (by kernel_rfl) agZ (aY.nil))) (by kernel_rfl)).mono (fun vs h=>lL (rs:=[[.i .i64],[.i .i64,.i .i64]]) h)
theorem ag0:bN Tryz.prog 31 (Ke [.i .i64,.i .i64,.i .i64]):=bN.slice (r:=[.i .i64,.i .i64,.i .i64]) Tryz.underlying31 aad (by kernel_rfl) (by decide)
structure bc.WF (c:bc):Prop where
 aL:RT.wf [.i .i64] c.aL
 ce: ∀a∈c.ce,RT.wf [.i .i64,.i .i64,.i .i64] a
def OC:List SV->Prop:=fun vs=> ∃c:bc,vs=lM.enc c/\c.WF
theorem ag1:bN Tryz.prog 33 OC:=(bN.struct (Ks:=[(fK [.i .i64]),(Ke [.i .i64,.i .i64,.i .i64])]) Tryz.underlying33 (aY.cons (by kernel_rfl) tq (aY.cons (by kernel_rfl) ag0 (aY.nil))) (by kernel_rfl)).mono (by rintro vs ⟨_,b0,rfl,⟨c0,rfl,w0⟩,_,b1,rfl,⟨c1,rfl,w1⟩,rfl⟩;refine ⟨⟨c0,c1⟩,?_,⟨w0,w1⟩⟩;simp only [v6];rfl)
theorem M1:bN Tryz.prog 34 (Ke [.i .i64]):=bN.slice (r:=[.i .i64]) Tryz.underlying34 tq (by kernel_rfl) (by decide)
theorem ako:bN Tryz.prog 4 (fK [.b]):=bN.bool Tryz.underlying4
theorem ag2:bN Tryz.prog 35 (Ke [.b]):=bN.slice (r:=[.b]) Tryz.underlying35 ako (by kernel_rfl) (by decide)
structure aU.WF (c:aU):Prop where
 ar: ∀a∈c.ar,RT.wf [.i .i64] a
 be: ∀a∈c.be,RT.wf [.b] a
 bi: ∀a∈c.bi,RT.wf [.i .i64] a
def OD:List SV->Prop:=fun vs=> ∃c:aU,vs=kS.enc c/\c.WF
theorem ag3:bN Tryz.prog 37 OD:=(bN.struct (Ks:=[(Ke [.i .i64]),(Ke [.b]),(Ke [.i .i64])]) Tryz.underlying37 (aY.cons (by kernel_rfl) M1 (aY.cons (by kernel_rfl) ag2 (aY.cons (by kernel_rfl) M1 (aY.nil)))) (by kernel_rfl)).mono (by rintro vs ⟨_,b0,rfl,⟨c0,rfl,w0⟩,_,b1,rfl,⟨c1,rfl,w1⟩,_,b2,rfl,⟨c2,rfl,w2⟩,rfl⟩;refine ⟨⟨c0,c1,c2⟩,?_,⟨w0,w1,w2⟩⟩;simp only [v6];rfl)
theorem OE:bN Tryz.prog 135 (fK [.i .i64,.i .i64]):=(bN.struct (Ks:=[(fK [.i .i64]),(fK [.i .i64])]) Tryz.underlying135 (aY.cons (by kernel_rfl) tq (aY.cons (by kernel_rfl) tq (aY.nil))) (by kernel_rfl)).mono (fun vs h=>lL (rs:=[[.i .i64],[.i .i64]]) h)
theorem aae:bN Tryz.prog 137 (fK [.i .i64,.i .i64,.i .i64,.i .i64,.i .i64]):=(bN.struct (Ks:=[(fK [.i .i64,.i .i64]),(fK [.i .i64]),(fK [.i .i64,.i .i64])]) Tryz.underlying137 (aY.cons (by kernel_rfl) IX (aY.cons (by kernel_rfl) tq (aY.cons (by kernel_rfl) OE (aY.nil)))) (by kernel_rfl)).mono (fun vs h=>lL (rs:=[[.i .i64,.i .i64],[.i .i64],[.i .i64,.i .i64]]) h)
theorem ag4:bN Tryz.prog 38 (Ke [.i .i64,.i .i64,.i .i64,.i .i64,.i .i64]):=bN.slice (r:=[.i .i64,.i .i64,.i .i64,.i .i64,.i .i64]) Tryz.underlying38 aae (by kernel_rfl) (by decide)
structure aJ.WF (c:aJ):Prop where
 ae:aU.WF c.ae
 bv: ∀a∈c.bv,RT.wf [.i .i64,.i .i64,.i .i64,.i .i64,.i .i64] a
 aj: ∀a∈c.aj,RT.wf [.i .i64] a
def Lc:List SV->Prop:=fun vs=> ∃c:aJ,vs=eT.enc c/\c.WF
theorem ag5:bN Tryz.prog 40 Lc:=(bN.struct (Ks:=[OD,(Ke [.i .i64,.i .i64,.i .i64,.i .i64,.i .i64]),(Ke [.i .i64])]) Tryz.underlying40 (aY.cons (by kernel_rfl) ag3 (aY.cons (by kernel_rfl) ag4 (aY.cons (by kernel_rfl) M1 (aY.nil)))) (by kernel_rfl)).mono (by rintro vs ⟨_,b0,rfl,⟨c0,rfl,w0⟩,_,b1,rfl,⟨c1,rfl,w1⟩,_,b2,rfl,⟨c2,rfl,w2⟩,rfl⟩;refine ⟨⟨c0,c1,c2⟩,?_,⟨w0,w1,w2⟩⟩;simp only [v6];rfl)
theorem aaf:bN Tryz.prog 201 (fK [.i .i64,.i .i64,.i .i64]):=(bN.struct (Ks:=[(fK [.i .i64]),(fK [.i .i64,.i .i64])]) Tryz.underlying201 (aY.cons (by kernel_rfl) tq (aY.cons (by kernel_rfl) OE (aY.nil))) (by kernel_rfl)).mono (fun vs h=>lL (rs:=[[.i .i64],[.i .i64,.i .i64]]) h)
theorem ag6:bN Tryz.prog 41 (Ke [.i .i64,.i .i64,.i .i64]):=bN.slice (r:=[.i .i64,.i .i64,.i .i64]) Tryz.underlying41 aaf (by kernel_rfl) (by decide)
structure aI.WF (c:aI):Prop where
 ci:RT.wf [.i .i64,.i .i64] c.ci
 ii:Field.WF c.ii
 af:bc.WF c.af
 aa:aJ.WF c.aa
 io: ∀a∈c.io,RT.wf [.i .i64,.i .i64,.i .i64] a
def OF:List SV->Prop:=fun vs=> ∃c:aI,vs=cy.enc c/\c.WF
theorem ag7:bN Tryz.prog 43 OF:=(bN.struct (Ks:=[(fK [.i .i64,.i .i64]),OB,OC,Lc,(Ke [.i .i64,.i .i64,.i .i64])]) Tryz.underlying43 (aY.cons (by kernel_rfl) IX (aY.cons (by kernel_rfl) agY (aY.cons (by kernel_rfl) ag1 (aY.cons (by kernel_rfl) ag5 (aY.cons (by kernel_rfl) ag6 (aY.nil)))))) (by kernel_rfl)).mono (by
 rintro vs ⟨_,b0,rfl,⟨c0,rfl,w0⟩,_,b1,rfl,⟨c1,rfl,w1⟩,_,b2,rfl,⟨c2,rfl,w2⟩,_,b3,rfl,⟨c3,rfl,w3⟩,_,b4,rfl,⟨c4,rfl,w4⟩,rfl⟩;refine ⟨⟨c0,c1,c2,c3,c4⟩,?_,⟨w0,w1,w2,w3,w4⟩⟩;simp only [v6];rfl)
theorem ag8:bN Tryz.prog 62 (fK [.i .i64,.i .i64,.i .i64]):=(bN.struct (Ks:=[(fK [.i .i64]),(fK [.i .i64]),(fK [.i .i64])]) Tryz.underlying62 (aY.cons (by kernel_rfl) tq (aY.cons (by kernel_rfl) tq (aY.cons (by kernel_rfl) tq (aY.nil)))) (by kernel_rfl)).mono (fun vs h=>lL (rs:=[[.i .i64],[.i .i64],[.i .i64]]) h)
theorem ag9:bN Tryz.prog 44 (Ke [.i .i64,.i .i64,.i .i64]):=bN.slice (r:=[.i .i64,.i .i64,.i .i64]) Tryz.underlying44 ag8 (by kernel_rfl) (by decide)
structure Tree.WF (c:Tree):Prop where
 jp:RT.wf [.i .i64] c.jp
 kw: ∀a∈c.kw,RT.wf [.i .i64,.i .i64,.i .i64] a
def TL:List SV->Prop:=fun vs=> ∃c:Tree,vs=tJ.enc c/\c.WF
theorem ag':bN Tryz.prog 46 TL:=(bN.struct (Ks:=[(fK [.i .i64]),(Ke [.i .i64,.i .i64,.i .i64])]) Tryz.underlying46 (aY.cons (by kernel_rfl) tq (aY.cons (by kernel_rfl) ag9 (aY.nil))) (by kernel_rfl)).mono (by rintro vs ⟨_,b0,rfl,⟨c0,rfl,w0⟩,_,b1,rfl,⟨c1,rfl,w1⟩,rfl⟩;refine ⟨⟨c0,c1⟩,?_,⟨w0,w1⟩⟩;simp only [v6];rfl)
structure cE.WF (c:cE):Prop where
 lc:aI.WF c.lc
 ls:Tree.WF c.ls
def TM:List SV->Prop:=fun vs=> ∃c:cE,vs=hZ.enc c/\c.WF
theorem aha:bN Tryz.prog 48 TM:=(bN.struct (Ks:=[OF,TL]) Tryz.underlying48 (aY.cons (by kernel_rfl) ag7 (aY.cons (by kernel_rfl) ag' (aY.nil))) (by kernel_rfl)).mono (by rintro vs ⟨_,b0,rfl,⟨c0,rfl,w0⟩,_,b1,rfl,⟨c1,rfl,w1⟩,rfl⟩;refine ⟨⟨c0,c1⟩,?_,⟨w0,w1⟩⟩;simp only [v6];rfl)
theorem akp:Tryz.prog.readableRec 48=AC/\48<Tryz.prog.types.size:=⟨by kernel_rfl,of_decide_eq_true (by kernel_rfl)⟩
theorem abi:Tryz.prog.readableRec 26=AC/\26<Tryz.prog.types.size:=⟨by kernel_rfl,of_decide_eq_true (by kernel_rfl)⟩
theorem ao':ownKnob Tryz.prog.godebug=ww:=by kernel_rfl
theorem mS {a b:Bool} (h:a=AC) (k:b=AC):(a&&b)=AC:=by rw [h,k];rfl
theorem Qk0:Rows.heaterEventsRow.wf (OpenSpec.ofChange Rows.heaterEventsSpec)=AC:=by decide+kernel
theorem Qk1:laidOutB Tryz.prog=AC:=by decide+kernel
theorem Qk2:mapsRowed Tryz.prog=AC:=by decide+kernel
theorem Qk3:Tryz.f5.params.all (Tryz.prog.readableRec ·)=AC:=by decide+kernel
theorem Qk4:namedTie Tryz.prog Rows.heaterEventsRow.named Rows.heaterEventsSpec.vars=AC:=by decide+kernel
theorem Qk5:(Rows.heaterEventsRow.stops==[])=AC:=by decide+kernel
theorem Qk6:(Tryz.prog.stops==[])=AC:=by decide+kernel
theorem Qk7:(Rows.heaterEventsRow.knobs==[])=AC:=by decide+kernel
theorem Qk8:(Tryz.prog.stopKnobs==[])=AC:=by decide+kernel
theorem Qk9:(Rows.heaterEventsRow.inPlace==Tryz.prog.inPlace 5)=AC:=by decide+kernel
theorem apa:(Rows.heaterEventsRow.unfollowed==Tryz.prog.unfollowed 5)=AC:=by decide+kernel
theorem apb:(Rows.heaterEventsRow.recurses==Tryz.prog.recurses 5)=AC:=by decide+kernel
theorem apc:(Rows.heaterEventsRow.named==Tryz.prog.varsNamed 5)=AC:=by decide+kernel
theorem apd:(Rows.heaterEventsRow.maps==(Tryz.f5.params.toList++Rows.heaterEventsSpec.plain.varTypes Tryz.prog).any (Tryz.prog.mapsRec ·))=AC:=by decide+kernel
theorem ape:(Rows.heaterEventsRow.ifaces==(Tryz.f5.params.toList++Rows.heaterEventsSpec.plain.varTypes Tryz.prog).any (Tryz.prog.ifacesRec ·))=AC:=by decide+kernel
theorem apf:(Rows.heaterEventsRow.mapsOut==Tryz.prog.mapsAmong Tryz.f5.resultTypes.toList)=AC:=by decide+kernel
theorem apg:(Rows.heaterEventsRow.loops==(Tryz.f5.params.toList++Rows.heaterEventsSpec.plain.varTypes Tryz.prog).any (Tryz.prog.loopsFrom ·))=AC:=by decide+kernel
theorem aph:(Rows.heaterEventsRow.wideKeys==(Tryz.f5.params.toList++Rows.heaterEventsSpec.plain.varTypes Tryz.prog++Tryz.f5.resultTypes.toList).any (Tryz.prog.wideKeysFrom ·))=AC:=by decide+kernel
theorem api:Rows.heaterEventsSpec.vars.all (Tryz.prog.varReadable ·)=AC:=by decide+kernel
theorem apj:Tryz.f5.resultTypes.all (fun t=>Tryz.prog.readableRec t&&decide (t<Tryz.prog.types.size))=AC:=by decide+kernel
theorem apk:(Rows.heaterEventsRow.ifacesOut==Tryz.f5.resultTypes.toList.any (Tryz.prog.ifacesRec ·))=AC:=by decide+kernel
theorem apl:(Rows.heaterEventsRow.loopsOut==Tryz.f5.resultTypes.toList.any (Tryz.prog.loopsFrom ·))=AC:=by decide+kernel
theorem apm:(Rows.heaterEventsRow.plainKeys==Tryz.prog.plainKeys)=AC:=by decide+kernel
theorem apn:Rows.heaterEventsRow.shortTexts.isNone=AC:=by decide+kernel
theorem apo:Tryz.prog.stopsHeard=AC:=by decide+kernel
theorem apq:Tryz.prog.mayEnter=AC:=by decide+kernel
theorem apr:(Rows.heaterEventsRow.lifted==Tryz.prog.liftsFinal)=AC:=by decide+kernel
theorem aps:(Tryz.prog.make==some Rows.heaterEventsRow.make)=AC:=by decide+kernel
theorem apt:(Rows.heaterEventsRow.kinds==(if Rows.heaterEventsRow.domain.isEmpty then [] else Tryz.f5.params.toList.map fun t=>match Tryz.prog.underlying t with|some (.int k)=>some k|_=>ww))=AC:=by decide+kernel
theorem apu:(Rows.heaterEventsRow.pinned==Rows.heaterEventsRow.pinnedBy)=AC:=by decide+kernel
theorem apv:(Rows.heaterEventsRow.veiled==(Tryz.f5.params.toList++Rows.heaterEventsSpec.plain.varTypes Tryz.prog++Tryz.f5.resultTypes.toList).any (Tryz.prog.veiledRec ·))=AC:=by decide+kernel
theorem apw:Rows.heaterEventsRow.veiledFits Tryz.prog Tryz.f5.params.toList (Tryz.f5.params.toList++Rows.heaterEventsSpec.plain.varTypes Tryz.prog++Tryz.f5.resultTypes.toList)=AC:=by decide+kernel
set_option maxRecDepth 100000 in
theorem aag:joinedFacts Tryz.prog 5 Tryz.f5 Rows.heaterEventsSpec Rows.heaterEventsRow=AC:=(mS (mS (mS (mS (mS (mS (mS (mS (mS (mS (mS (mS (mS (mS (mS (mS (mS (mS (mS (mS (mS (mS (mS (mS (mS (mS (mS (mS (mS (mS (mS Qk0 Qk1) Qk2) Qk3) Qk4) Qk5) Qk6) Qk7) Qk8) Qk9) apa) apb) apc) apd) ape) apf) apg) aph) api) apj) apk) apl) apm) apn) apo) apq) apr) aps) apt) apu) apv) apw)
set_option maxRecDepth 100000 in
theorem aah (os:Os) (started:os.Started) (H:Type) (enc:TypeId×Value->H):
 ReturnsInHanded {} Tryz.checked os 5 .any (Rows.heaterEventsSpec.pre6 enc Tryz.prog Tryz.f5 Rows.heaterEventsRow.domain false) (Rows.heaterEventsSpec.post enc Tryz.prog Tryz.f5 false AC false false):=by
 refine returnsInHanded_of_change (C:=Tryz.checked) ao' started (by kernel_rfl) Tryz.func5
  (ChangeSpec.witness6 (enc:=enc) (C:=Tryz.checked) false ⟨#[],#[.agg #[.int .i64 0,.int .i64 0,.slice ww 0 0,.int .i64 0,.slice ww 0 0,.slice ww 0 0,.slice ww 0 0,.slice ww 0 0,.slice ww 0 0,.slice ww 0 0,.slice ww 0 0,.int .i64 0,.slice ww 0 0],.agg #[.int .i64 0,.int .i64 0],.agg #[.int .i64 0,.int .i64 0]],[]⟩ 16 (by kernel_rfl) (by kernel_rfl) (by kernel_rfl) (by kernel_rfl)) ?_
 intro W ou args ds gs before akq hW UM _;have Px: ∀(j:Nat) t v,Tryz.f5.params[j]? =some t->args[j]? =some v->Value.okWide Tryz.prog W .any ou t v:=akq;have hW':=hW;obtain ⟨p,q,hA0,hV,rfl,QD,Gf⟩:=hW;have hA:DataW.TrodAll enc Tryz.prog W 0 (fun _=>AC) AC Tryz.f5.params.toList args.toList ds p:=hA0;rw [Tryz.params5] at hA Px;obtain ⟨v0,vs0,d0,ds0,p0,q0,kN,rfl,rfl,h0,r0⟩:=trodAll_cons hA;obtain ⟨v1,vs1,d1,ds1,p1,q1,rfl,rfl,rfl,h1,r1⟩:=trodAll_cons r0;obtain ⟨v2,vs2,d2,ds2,p2,q2,rfl,rfl,rfl,h2,r2⟩:=trodAll_cons r1;obtain ⟨rfl,rfl,rfl⟩:=trodAll_nil r2;obtain rfl:args= #[v0,v1,v2]:=by cases args;simp_all
 obtain ⟨rfl,rfl⟩:=trodVars_none hV;obtain ⟨_,g0,⟨a0,rfl,w0⟩,e0,k0⟩:=bN.acn aha Tryz.underlying48 (Px 0 48 v0 rfl rfl) h0;obtain rfl:g0=(oA (hZ.enc a0)).getD []:=by rw [e0];rfl
 obtain ⟨_,g1,⟨a1,rfl,w1⟩,e1,k1⟩:=bN.acn IX Tryz.underlying26 (Px 1 26 v1 rfl rfl) h1;obtain rfl:g1=(oA (RT.sv [.i .i64,.i .i64] a1)).getD []:=by rw [e1];rfl
 obtain ⟨_,g2,⟨a2,rfl,w2⟩,e2,k2⟩:=bN.acn IX Tryz.underlying26 (Px 2 26 v2 rfl rfl) h2;obtain rfl:g2=(oA (RT.sv [.i .i64,.i .i64] a2)).getD []:=by rw [e2];rfl
 obtain ⟨n,s,z,bI⟩:=cQ.amz aj6 SZ (a:=(a0,a1,a2)) (uX a0 a1 a2 (Tw.of w0.lc.ci w0.lc.aa.bv) ⟨wf_i64 w1.1,wf_i64 w1.2⟩ ⟨wf_i64 w2.1,wf_i64 w2.2⟩) (ps:=[.agg ((oA (hZ.enc a0)).getD []),.agg ((oA (RT.sv [.i .i64,.i .i64] a1)).getD []),.agg ((oA (RT.sv [.i .i64,.i .i64] a2)).getD [])]) rfl rfl;refine (Pj (P:=Tryz.prog) (prims:=fun _=>AC) ZF Mt jc bI (us:=[v0,v1,v2]) (w:=W) (.cons _ _ _ _ k0 (.cons _ _ _ _ k1 (.cons _ _ _ _ k2 (.nil))))).mono fun e W' ⟨he,hb⟩=>?_
 subst he;exact ⟨_,rfl,Ro (P:=Tryz.prog) (bt:=4) Qk1 rfl rfl (by kernel_rfl) (by
  rw [Tryz.params5];intro t ht;simp only [List.mem_cons,List.not_mem_nil,or_false] at ht;rcases ht with rfl|rfl|rfl
  · exact akp
  · exact abi
  exact abi) hW' rfl hb⟩
theorem heaterEvents_holds:Rows.HeaterEventsSaid:=
 OpenClaim.holds_of_wide 5 Tryz.f5 rfl rfl rfl rfl rfl rfl rfl ⟨rfl,rfl,rfl,rfl,rfl⟩ rfl rfl rfl rfl rfl (by kernel_rfl) Tryz.func5 aag
  (of_decide_eq_true (by kernel_rfl)) (by unfold Func.isWrapper;first|(rw [rc (by decide+kernel)];kernel_rfl)|(rw [ut (by decide+kernel)];exact ⟨rfl,rfl⟩))
  (fun os started H enc _=>aah os started H enc)
end Go.Proofs.YthljmpcakagceaaGreat
