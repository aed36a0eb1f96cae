/- The law HangerMoves returns true: its plain function gives true whatever comes in. -/
import Derived.Test.YtbncnimfgdelaaaGreatRows
import Derived.Test.YtbncnimfgdelaaaGreatCBQS2
import Derived.Test.YtbncnimfgdelaaaGreatCBQM4
import Derived.Test.YtbncnimfgdelaaaGreatCBVm3
namespace Go.Proofs.YtbncnimfgdelaaaGreat
open Go.ChangeShapes Go.WideShapes Go.ChangeAt Go.RowKit Go.Vm
theorem aBo:cM Tryz.prog 2 (jG [.i .i64]):=cM.int Tryz.underlying2
theorem Z9:cM Tryz.prog 26 (jG [.i .i64,.i .i64]):=(cM.struct (Ks:=[(jG [.i .i64]),(jG [.i .i64])]) Tryz.underlying26 (bE.cons (by kernel_rfl) aBo (bE.cons (by kernel_rfl) aBo (bE.nil))) (by kernel_rfl)).mono (fun vs h=>rO (rs:=[[.i .i64],[.i .i64]]) h)
theorem GQ:cM Tryz.prog 3 (jG [.i .i64]):=cM.int Tryz.underlying3
theorem aE0:cM Tryz.prog 67 (jG [.i .i64,.i .i64,.i .i64]):=(cM.struct (Ks:=[(jG [.i .i64]),(jG [.i .i64]),(jG [.i .i64])]) Tryz.underlying67 (bE.cons (by kernel_rfl) GQ (bE.cons (by kernel_rfl) aBo (bE.cons (by kernel_rfl) aBo (bE.nil)))) (by kernel_rfl)).mono (fun vs h=>rO (rs:=[[.i .i64],[.i .i64],[.i .i64]]) h)
theorem aSc:cM Tryz.prog 22 (XO [.i .i64,.i .i64,.i .i64]):=cM.slice (r:=[.i .i64,.i .i64,.i .i64]) Tryz.underlying22 aE0 (by kernel_rfl) (by decide)
structure Field.WF (c:Field):Prop where
 points: ∀a∈c.points,RT.wf [.i .i64,.i .i64,.i .i64] a
def aBp:List SV->Prop:=fun vs=> ∃c:Field,vs=bN.enc c/\c.WF
theorem aSd:cM Tryz.prog 24 aBp:=(cM.struct (Ks:=[(XO [.i .i64,.i .i64,.i .i64])]) Tryz.underlying24 (bE.cons (by kernel_rfl) aSc (bE.nil)) (by kernel_rfl)).mono (by
 rintro vs ⟨_,b0,rfl,⟨c0,rfl,w0⟩,rfl⟩;refine ⟨⟨c0⟩,?_,⟨w0⟩⟩;simp only [List.append_nil]
 rfl)
theorem aSe:cM Tryz.prog 94 (jG [.i .i64,.i .i64]):=(cM.struct (Ks:=[(jG [.i .i64]),(jG [.i .i64])]) Tryz.underlying94 (bE.cons (by kernel_rfl) GQ (bE.cons (by kernel_rfl) GQ (bE.nil))) (by kernel_rfl)).mono (fun vs h=>rO (rs:=[[.i .i64],[.i .i64]]) h)
theorem aLN:cM Tryz.prog 117 (jG [.i .i64,.i .i64,.i .i64]):=(cM.struct (Ks:=[(jG [.i .i64]),(jG [.i .i64,.i .i64])]) Tryz.underlying117 (bE.cons (by kernel_rfl) GQ (bE.cons (by kernel_rfl) aSe (bE.nil))) (by kernel_rfl)).mono (fun vs h=>rO (rs:=[[.i .i64],[.i .i64,.i .i64]]) h)
theorem aSf:cM Tryz.prog 27 (XO [.i .i64,.i .i64,.i .i64]):=cM.slice (r:=[.i .i64,.i .i64,.i .i64]) Tryz.underlying27 aLN (by kernel_rfl) (by decide)
structure bK.WF (c:bK):Prop where
 next_:RT.wf [.i .i64] c.next_
 list: ∀a∈c.list,RT.wf [.i .i64,.i .i64,.i .i64] a
def aBq:List SV->Prop:=fun vs=> ∃c:bK,vs=hM.enc c/\c.WF
theorem aSg:cM Tryz.prog 29 aBq:=(cM.struct (Ks:=[(jG [.i .i64]),(XO [.i .i64,.i .i64,.i .i64])]) Tryz.underlying29 (bE.cons (by kernel_rfl) GQ (bE.cons (by kernel_rfl) aSf (bE.nil))) (by kernel_rfl)).mono (by
 rintro vs ⟨_,b0,rfl,⟨c0,rfl,w0⟩,_,b1,rfl,⟨c1,rfl,w1⟩,rfl⟩;refine ⟨⟨c0,c1⟩,?_,⟨w0,w1⟩⟩;simp only [List.append_nil]
 rfl)
theorem T2:cM Tryz.prog 30 (XO [.i .i64]):=cM.slice (r:=[.i .i64]) Tryz.underlying30 GQ (by kernel_rfl) (by decide)
theorem aUM:cM Tryz.prog 4 (jG [.b]):=cM.bool Tryz.underlying4
theorem aSh:cM Tryz.prog 31 (XO [.b]):=cM.slice (r:=[.b]) Tryz.underlying31 aUM (by kernel_rfl) (by decide)
structure bA.WF (c:bA):Prop where
 uses: ∀a∈c.uses,RT.wf [.i .i64] a
 used: ∀a∈c.used,RT.wf [.b] a
 free: ∀a∈c.free,RT.wf [.i .i64] a
def aBr:List SV->Prop:=fun vs=> ∃c:bA,vs=hJ.enc c/\c.WF
theorem aSi:cM Tryz.prog 33 aBr:=(cM.struct (Ks:=[(XO [.i .i64]),(XO [.b]),(XO [.i .i64])]) Tryz.underlying33 (bE.cons (by kernel_rfl) T2 (bE.cons (by kernel_rfl) aSh (bE.cons (by kernel_rfl) T2 (bE.nil)))) (by kernel_rfl)).mono (by
 rintro vs ⟨_,b0,rfl,⟨c0,rfl,w0⟩,_,b1,rfl,⟨c1,rfl,w1⟩,_,b2,rfl,⟨c2,rfl,w2⟩,rfl⟩;refine ⟨⟨c0,c1,c2⟩,?_,⟨w0,w1,w2⟩⟩;simp only [List.append_nil]
 rfl)
theorem aBs:cM Tryz.prog 128 (jG [.i .i64,.i .i64]):=(cM.struct (Ks:=[(jG [.i .i64]),(jG [.i .i64])]) Tryz.underlying128 (bE.cons (by kernel_rfl) GQ (bE.cons (by kernel_rfl) GQ (bE.nil))) (by kernel_rfl)).mono (fun vs h=>rO (rs:=[[.i .i64],[.i .i64]]) h)
theorem aLO:cM Tryz.prog 130 (jG [.i .i64,.i .i64,.i .i64,.i .i64,.i .i64]):=(cM.struct (Ks:=[(jG [.i .i64,.i .i64]),(jG [.i .i64]),(jG [.i .i64,.i .i64])]) Tryz.underlying130 (bE.cons (by kernel_rfl) Z9 (bE.cons (by kernel_rfl) GQ (bE.cons (by kernel_rfl) aBs (bE.nil)))) (by kernel_rfl)).mono (fun vs h=>rO (rs:=[[.i .i64,.i .i64],[.i .i64],[.i .i64,.i .i64]]) h)
theorem aSj:cM Tryz.prog 34 (XO [.i .i64,.i .i64,.i .i64,.i .i64,.i .i64]):=cM.slice (r:=[.i .i64,.i .i64,.i .i64,.i .i64,.i .i64]) Tryz.underlying34 aLO (by kernel_rfl) (by decide)
structure aQ.WF (c:aQ):Prop where
 slots:bA.WF c.slots
 heap: ∀a∈c.heap,RT.wf [.i .i64,.i .i64,.i .i64,.i .i64,.i .i64] a
 where_: ∀a∈c.where_,RT.wf [.i .i64] a
def XN:List SV->Prop:=fun vs=> ∃c:aQ,vs=dB.enc c/\c.WF
theorem aSk:cM Tryz.prog 36 XN:=(cM.struct (Ks:=[aBr,(XO [.i .i64,.i .i64,.i .i64,.i .i64,.i .i64]),(XO [.i .i64])]) Tryz.underlying36 (bE.cons (by kernel_rfl) aSi (bE.cons (by kernel_rfl) aSj (bE.cons (by kernel_rfl) T2 (bE.nil)))) (by kernel_rfl)).mono (by
 rintro vs ⟨_,b0,rfl,⟨c0,rfl,w0⟩,_,b1,rfl,⟨c1,rfl,w1⟩,_,b2,rfl,⟨c2,rfl,w2⟩,rfl⟩;refine ⟨⟨c0,c1,c2⟩,?_,⟨w0,w1,w2⟩⟩;simp only [List.append_nil]
 rfl)
theorem aLP:cM Tryz.prog 152 (jG [.i .i64,.i .i64,.i .i64]):=(cM.struct (Ks:=[(jG [.i .i64]),(jG [.i .i64,.i .i64])]) Tryz.underlying152 (bE.cons (by kernel_rfl) GQ (bE.cons (by kernel_rfl) aBs (bE.nil))) (by kernel_rfl)).mono (fun vs h=>rO (rs:=[[.i .i64],[.i .i64,.i .i64]]) h)
theorem aSl:cM Tryz.prog 37 (XO [.i .i64,.i .i64,.i .i64]):=cM.slice (r:=[.i .i64,.i .i64,.i .i64]) Tryz.underlying37 aLP (by kernel_rfl) (by decide)
structure aP.WF (c:aP):Prop where
 now:RT.wf [.i .i64,.i .i64] c.now
 field:Field.WF c.field
 certs:bK.WF c.certs
 agenda:aQ.WF c.agenda
 due: ∀a∈c.due,RT.wf [.i .i64,.i .i64,.i .i64] a
def aBt:List SV->Prop:=fun vs=> ∃c:aP,vs=bL.enc c/\c.WF
theorem aSm:cM Tryz.prog 39 aBt:=(cM.struct (Ks:=[(jG [.i .i64,.i .i64]),aBp,aBq,XN,(XO [.i .i64,.i .i64,.i .i64])]) Tryz.underlying39 (bE.cons (by kernel_rfl) Z9 (bE.cons (by kernel_rfl) aSd (bE.cons (by kernel_rfl) aSg (bE.cons (by kernel_rfl) aSk (bE.cons (by kernel_rfl) aSl (bE.nil)))))) (by kernel_rfl)).mono (by
 rintro vs ⟨_,b0,rfl,⟨c0,rfl,w0⟩,_,b1,rfl,⟨c1,rfl,w1⟩,_,b2,rfl,⟨c2,rfl,w2⟩,_,b3,rfl,⟨c3,rfl,w3⟩,_,b4,rfl,⟨c4,rfl,w4⟩,rfl⟩;refine ⟨⟨c0,c1,c2,c3,c4⟩,?_,⟨w0,w1,w2,w3,w4⟩⟩;simp only [List.append_nil]
 rfl)
structure aZ.WF (c:aZ):Prop where
 clock:aP.WF c.clock
 up: ∀a∈c.up,RT.wf [.i .i64] a
def aE1:List SV->Prop:=fun vs=> ∃c:aZ,vs=bU.enc c/\c.WF
theorem aSn:cM Tryz.prog 41 aE1:=(cM.struct (Ks:=[aBt,(XO [.i .i64])]) Tryz.underlying41 (bE.cons (by kernel_rfl) aSm (bE.cons (by kernel_rfl) T2 (bE.nil))) (by kernel_rfl)).mono (by
 rintro vs ⟨_,b0,rfl,⟨c0,rfl,w0⟩,_,b1,rfl,⟨c1,rfl,w1⟩,rfl⟩;refine ⟨⟨c0,c1⟩,?_,⟨w0,w1⟩⟩;simp only [List.append_nil]
 rfl)
theorem aUN:Tryz.prog.readableRec 41=true/\41<Tryz.prog.types.size:=⟨by kernel_rfl,of_decide_eq_true (by kernel_rfl)⟩
theorem aUO:Tryz.prog.readableRec 26=true/\26<Tryz.prog.types.size:=⟨by kernel_rfl,of_decide_eq_true (by kernel_rfl)⟩
theorem aUP:Tryz.prog.readableRec 67=true/\67<Tryz.prog.types.size:=⟨by kernel_rfl,of_decide_eq_true (by kernel_rfl)⟩
theorem aWD:Tryz.prog.readableRec 3=true/\3<Tryz.prog.types.size:=⟨by kernel_rfl,of_decide_eq_true (by kernel_rfl)⟩
theorem aWE:ownKnob Tryz.prog.godebug=none:=by kernel_rfl
theorem rG {a b:Bool} (h:a=true) (k:b=true):(a&&b)=true:=by rw [h,k];rfl
theorem Qk0:Rows.hangerMovesRow.wf (OpenSpec.ofChange Rows.hangerMovesSpec)=true:=by decide+kernel
theorem Qk1:laidOutB Tryz.prog=true:=by decide+kernel
theorem Qk2:mapsRowed Tryz.prog=true:=by decide+kernel
theorem Qk3:Tryz.f5.params.all (Tryz.prog.readableRec ·)=true:=by decide+kernel
theorem Qk4:namedTie Tryz.prog Rows.hangerMovesRow.named Rows.hangerMovesSpec.vars=true:=by decide+kernel
theorem Qk5:(Rows.hangerMovesRow.stops==[])=true:=by decide+kernel
theorem Qk6:(Tryz.prog.stops==[])=true:=by decide+kernel
theorem Qk7:(Rows.hangerMovesRow.knobs==[])=true:=by decide+kernel
theorem Qk8:(Tryz.prog.stopKnobs==[])=true:=by decide+kernel
theorem Qk9:(Rows.hangerMovesRow.inPlace==Tryz.prog.inPlace 5)=true:=by decide+kernel
theorem aWF:(Rows.hangerMovesRow.unfollowed==Tryz.prog.unfollowed 5)=true:=by decide+kernel
theorem aWG:(Rows.hangerMovesRow.recurses==Tryz.prog.recurses 5)=true:=by decide+kernel
theorem aWH:(Rows.hangerMovesRow.named==Tryz.prog.varsNamed 5)=true:=by decide+kernel
theorem aWI:(Rows.hangerMovesRow.maps==(Tryz.f5.params.toList++Rows.hangerMovesSpec.plain.varTypes Tryz.prog).any (Tryz.prog.mapsRec ·))=true:=by decide+kernel
theorem aWJ:(Rows.hangerMovesRow.ifaces==(Tryz.f5.params.toList++Rows.hangerMovesSpec.plain.varTypes Tryz.prog).any (Tryz.prog.ifacesRec ·))=true:=by decide+kernel
theorem aWK:(Rows.hangerMovesRow.mapsOut==Tryz.prog.mapsAmong Tryz.f5.resultTypes.toList)=true:=by decide+kernel
theorem aWL:(Rows.hangerMovesRow.loops==(Tryz.f5.params.toList++Rows.hangerMovesSpec.plain.varTypes Tryz.prog).any (Tryz.prog.loopsFrom ·))=true:=by decide+kernel
theorem aWM:(Rows.hangerMovesRow.wideKeys==(Tryz.f5.params.toList++Rows.hangerMovesSpec.plain.varTypes Tryz.prog++Tryz.f5.resultTypes.toList).any (Tryz.prog.wideKeysFrom ·))=true:=by decide+kernel
theorem aWN:Rows.hangerMovesSpec.vars.all (Tryz.prog.varReadable ·)=true:=by decide+kernel
theorem aWO:Tryz.f5.resultTypes.all (fun t=>Tryz.prog.readableRec t&&decide (t<Tryz.prog.types.size))=true:=by decide+kernel
theorem aWP:(Rows.hangerMovesRow.ifacesOut==Tryz.f5.resultTypes.toList.any (Tryz.prog.ifacesRec ·))=true:=by decide+kernel
theorem aWQ:(Rows.hangerMovesRow.loopsOut==Tryz.f5.resultTypes.toList.any (Tryz.prog.loopsFrom ·))=true:=by decide+kernel
theorem aWR:(Rows.hangerMovesRow.plainKeys==Tryz.prog.plainKeys)=true:=by decide+kernel
theorem aWS:Rows.hangerMovesRow.shortTexts.isNone=true:=by decide+kernel
theorem aWT:Tryz.prog.stopsHeard=true:=by decide+kernel
theorem aWU:Tryz.prog.mayEnter=true:=by decide+kernel
theorem aWV:(Rows.hangerMovesRow.lifted==Tryz.prog.liftsFinal)=true:=by decide+kernel
theorem aWW:(Tryz.prog.make==some Rows.hangerMovesRow.make)=true:=by decide+kernel
theorem aWX:(Rows.hangerMovesRow.kinds==(if Rows.hangerMovesRow.domain.isEmpty then [] else Tryz.f5.params.toList.map fun t=>match Tryz.prog.underlying t with|some (.int k)=>some k|_=>none))=true:=by decide+kernel
theorem aWY:(Rows.hangerMovesRow.pinned==Rows.hangerMovesRow.pinnedBy)=true:=by decide+kernel
theorem aWZ:(Rows.hangerMovesRow.veiled==(Tryz.f5.params.toList++Rows.hangerMovesSpec.plain.varTypes Tryz.prog++Tryz.f5.resultTypes.toList).any (Tryz.prog.veiledRec ·))=true:=by decide+kernel
theorem aW0:Rows.hangerMovesRow.veiledFits Tryz.prog Tryz.f5.params.toList (Tryz.f5.params.toList++Rows.hangerMovesSpec.plain.varTypes Tryz.prog++Tryz.f5.resultTypes.toList)=true:=by decide+kernel
set_option maxRecDepth 100000 in
theorem aLQ:joinedFacts Tryz.prog 5 Tryz.f5 Rows.hangerMovesSpec Rows.hangerMovesRow=true:=(rG (rG (rG (rG (rG (rG (rG (rG (rG (rG (rG (rG (rG (rG (rG (rG (rG (rG (rG (rG (rG (rG (rG (rG (rG (rG (rG (rG (rG (rG (rG Qk0 Qk1) Qk2) Qk3) Qk4) Qk5) Qk6) Qk7) Qk8) Qk9) aWF) aWG) aWH) aWI) aWJ) aWK) aWL) aWM) aWN) aWO) aWP) aWQ) aWR) aWS) aWT) aWU) aWV) aWW) aWX) aWY) aWZ) aW0)
set_option maxRecDepth 100000 in
theorem aLR (os:Os) (started:os.Started) (H:Type) (enc:TypeId×Value->H):
 ReturnsInHanded {} Tryz.checked os 5 .any (Rows.hangerMovesSpec.pre6 enc Tryz.prog Tryz.f5 Rows.hangerMovesRow.domain false) (Rows.hangerMovesSpec.post enc Tryz.prog Tryz.f5 false true false false):=by
 refine returnsInHanded_of_change (C:=Tryz.checked) aWE started (by kernel_rfl) Tryz.func5
  (ChangeSpec.witness6 (enc:=enc) (C:=Tryz.checked) false ⟨#[],#[.agg #[.int .i64 0,.int .i64 0,.slice none 0 0,.int .i64 0,.slice none 0 0,.slice none 0 0,.slice none 0 0,.slice none 0 0,.slice none 0 0,.slice none 0 0,.slice none 0 0,.slice none 0 0],.agg #[.int .i64 0,.int .i64 0],.agg #[.int .i64 0,.int .i64 0,.int .i64 0],.int .i64 0],[]⟩ 16 (by kernel_rfl) (by kernel_rfl) (by kernel_rfl) (by kernel_rfl)) ?_
 intro W base args ds gs before hval0 hW hcnd _;have hval: ∀(j:Nat) t v,Tryz.f5.params[j]? =some t->args[j]? =some v->Value.okWide Tryz.prog W .any base t v:=hval0;have hW':=hW;obtain ⟨p,q,hA0,hV,rfl,hfz,hnd⟩:=hW;have hA:DataW.TrodAll enc Tryz.prog W 0 (fun _=>true) true Tryz.f5.params.toList args.toList ds p:=hA0
 rw [Tryz.params5] at hA hval;obtain ⟨v0,vs0,d0,ds0,p0,q0,hargs,rfl,rfl,h0,r0⟩:=trodAll_cons hA;obtain ⟨v1,vs1,d1,ds1,p1,q1,rfl,rfl,rfl,h1,r1⟩:=trodAll_cons r0;obtain ⟨v2,vs2,d2,ds2,p2,q2,rfl,rfl,rfl,h2,r2⟩:=trodAll_cons r1;obtain ⟨v3,vs3,d3,ds3,p3,q3,rfl,rfl,rfl,h3,r3⟩:=trodAll_cons r2;obtain ⟨rfl,rfl,rfl⟩:=trodAll_nil r3;obtain rfl:args= #[v0,v1,v2,v3]:=by cases args;simp_all
 obtain ⟨rfl,rfl⟩:=trodVars_none hV;obtain ⟨_,g0,⟨a0,rfl,w0⟩,e0,k0⟩:=cM.argS aSn Tryz.underlying41 (hval 0 41 v0 rfl rfl) h0;obtain rfl:g0=(pvL (bU.enc a0)).getD []:=by rw [e0];rfl
 obtain ⟨_,g1,⟨a1,rfl,w1⟩,e1,k1⟩:=cM.argS Z9 Tryz.underlying26 (hval 1 26 v1 rfl rfl) h1;obtain rfl:g1=(pvL (RT.sv [.i .i64,.i .i64] a1)).getD []:=by rw [e1];rfl
 obtain ⟨_,g2,⟨a2,rfl,w2⟩,e2,k2⟩:=cM.argS aE0 Tryz.underlying67 (hval 2 67 v2 rfl rfl) h2;obtain rfl:g2=(pvL (RT.sv [.i .i64,.i .i64,.i .i64] a2)).getD []:=by rw [e2];rfl
 obtain ⟨a3,w3,k3⟩:=cM.argI Tryz.underlying3 (hval 3 3 v3 rfl rfl) h3
 obtain ⟨n,s,z,hrun⟩:=aI.runA aUD aMf (a:=(a0,a1,a2,a3)) (DF a0 a1 a2 a3 (aCs.of w0.clock.now w0.clock.agenda.heap) ⟨KJ w1.1,KJ w1.2⟩) (ps:=[.agg ((pvL (bU.enc a0)).getD []),.agg ((pvL (RT.sv [.i .i64,.i .i64] a1)).getD []),.agg ((pvL (RT.sv [.i .i64,.i .i64,.i .i64] a2)).getD []),.int .i64 a3]) rfl rfl
 refine (aBQ (P:=Tryz.prog) (prims:=fun _=>true) (TT.tabOK aAD) (TT.primsOK aAD) oV hrun (us:=[v0,v1,v2,v3]) (w:=W) (.cons _ _ _ _ k0 (.cons _ _ _ _ k1 (.cons _ _ _ _ k2 (.cons _ _ _ _ k3 (.nil)))))).mono fun e W' ⟨he,hb⟩=>?_
 subst he;exact ⟨_,rfl,aC4 (P:=Tryz.prog) (bt:=4) Qk1 rfl rfl (by kernel_rfl) (by
  rw [Tryz.params5];intro t ht;simp only [List.mem_cons,List.not_mem_nil,or_false] at ht;rcases ht with rfl|rfl|rfl|rfl
  · exact aUN
  · exact aUO
  · exact aUP
  · exact aWD) hW' rfl hb⟩
theorem hangerMoves_holds:Rows.HangerMovesSaid:=
 OpenClaim.holds_of_wide 5 Tryz.f5 rfl rfl rfl rfl rfl rfl rfl ⟨rfl,rfl,rfl,rfl,rfl⟩ rfl rfl rfl rfl rfl (by kernel_rfl) Tryz.func5 aLQ
  (of_decide_eq_true (by kernel_rfl)) (by unfold Func.isWrapper;first|(rw [if_pos (by decide+kernel)];kernel_rfl)|(rw [if_neg (by decide+kernel)];exact ⟨rfl,rfl⟩))
  (fun os started H enc _=>aLR os started H enc)
end Go.Proofs.YtbncnimfgdelaaaGreat
