/- The law EeditPuts returns true: its plain function gives true whatever comes in. -/
import Derived.Test.YthljmpcakagceaaGreatRows
import Derived.Test.YthljmpcakagceaaGreatBQS2
import Derived.Test.YthljmpcakagceaaGreatBQM4
import Derived.Test.YthljmpcakagceaaGreatBVm3
namespace Go.Proofs.YthljmpcakagceaaGreat
open Go.ChangeShapes Go.WideShapes Go.ChangeAt Go.RowKit Go.Vm
theorem ZE:cC Tryz.prog 2 (gO [.i .i64]):=cC.int Tryz.underlying2
theorem aCP:cC Tryz.prog 26 (gO [.i .i64,.i .i64]):=(cC.struct (Ks:=[(gO [.i .i64]),(gO [.i .i64])]) Tryz.underlying26 (bA.cons (by kernel_rfl) ZE (bA.cons (by kernel_rfl) ZE (bA.nil))) (by kernel_rfl)).mono (fun vs h=>oE (rs:=[[.i .i64],[.i .i64]]) h)
theorem yE:cC Tryz.prog 3 (gO [.i .i64]):=cC.int Tryz.underlying3
theorem WZ:cC Tryz.prog 64 (gO [.i .i64,.i .i64,.i .i64]):=(cC.struct (Ks:=[(gO [.i .i64]),(gO [.i .i64]),(gO [.i .i64])]) Tryz.underlying64 (bA.cons (by kernel_rfl) yE (bA.cons (by kernel_rfl) ZE (bA.cons (by kernel_rfl) ZE (bA.nil)))) (by kernel_rfl)).mono (fun vs h=>oE (rs:=[[.i .i64],[.i .i64],[.i .i64]]) h)
theorem aPv:cC Tryz.prog 22 (SQ [.i .i64,.i .i64,.i .i64]):=cC.slice (r:=[.i .i64,.i .i64,.i .i64]) Tryz.underlying22 WZ (by kernel_rfl) (by decide)
structure Field.WF (c:Field):Prop where
 points: ∀a∈c.points,RT.wf [.i .i64,.i .i64,.i .i64] a
def ZF:List SV->Prop:=fun vs=> ∃c:Field,vs=bT.enc c/\c.WF
theorem aPw:cC Tryz.prog 24 ZF:=(cC.struct (Ks:=[(SQ [.i .i64,.i .i64,.i .i64])]) Tryz.underlying24 (bA.cons (by kernel_rfl) aPv (bA.nil)) (by kernel_rfl)).mono (by
 rintro vs ⟨_,b0,rfl,⟨c0,rfl,w0⟩,rfl⟩;refine ⟨⟨c0⟩,?_,⟨w0⟩⟩;simp only [List.append_nil]
 rfl)
theorem aPx:cC Tryz.prog 66 (gO [.i .i64,.i .i64]):=(cC.struct (Ks:=[(gO [.i .i64]),(gO [.i .i64])]) Tryz.underlying66 (bA.cons (by kernel_rfl) yE (bA.cons (by kernel_rfl) yE (bA.nil))) (by kernel_rfl)).mono (fun vs h=>oE (rs:=[[.i .i64],[.i .i64]]) h)
theorem aJP:cC Tryz.prog 197 (gO [.i .i64,.i .i64,.i .i64]):=(cC.struct (Ks:=[(gO [.i .i64]),(gO [.i .i64,.i .i64])]) Tryz.underlying197 (bA.cons (by kernel_rfl) yE (bA.cons (by kernel_rfl) aPx (bA.nil))) (by kernel_rfl)).mono (fun vs h=>oE (rs:=[[.i .i64],[.i .i64,.i .i64]]) h)
theorem aPy:cC Tryz.prog 31 (SQ [.i .i64,.i .i64,.i .i64]):=cC.slice (r:=[.i .i64,.i .i64,.i .i64]) Tryz.underlying31 aJP (by kernel_rfl) (by decide)
structure aV.WF (c:aV):Prop where
 next_:RT.wf [.i .i64] c.next_
 list: ∀a∈c.list,RT.wf [.i .i64,.i .i64,.i .i64] a
def ZG:List SV->Prop:=fun vs=> ∃c:aV,vs=gR.enc c/\c.WF
theorem aPz:cC Tryz.prog 33 ZG:=(cC.struct (Ks:=[(gO [.i .i64]),(SQ [.i .i64,.i .i64,.i .i64])]) Tryz.underlying33 (bA.cons (by kernel_rfl) yE (bA.cons (by kernel_rfl) aPy (bA.nil))) (by kernel_rfl)).mono (by
 rintro vs ⟨_,b0,rfl,⟨c0,rfl,w0⟩,_,b1,rfl,⟨c1,rfl,w1⟩,rfl⟩;refine ⟨⟨c0,c1⟩,?_,⟨w0,w1⟩⟩;simp only [List.append_nil]
 rfl)
theorem W0:cC Tryz.prog 34 (SQ [.i .i64]):=cC.slice (r:=[.i .i64]) Tryz.underlying34 yE (by kernel_rfl) (by decide)
theorem aR4:cC Tryz.prog 4 (gO [.b]):=cC.bool Tryz.underlying4
theorem aPA:cC Tryz.prog 35 (SQ [.b]):=cC.slice (r:=[.b]) Tryz.underlying35 aR4 (by kernel_rfl) (by decide)
structure aS.WF (c:aS):Prop where
 uses: ∀a∈c.uses,RT.wf [.i .i64] a
 used: ∀a∈c.used,RT.wf [.b] a
 free: ∀a∈c.free,RT.wf [.i .i64] a
def ZH:List SV->Prop:=fun vs=> ∃c:aS,vs=gJ.enc c/\c.WF
theorem aPB:cC Tryz.prog 37 ZH:=(cC.struct (Ks:=[(SQ [.i .i64]),(SQ [.b]),(SQ [.i .i64])]) Tryz.underlying37 (bA.cons (by kernel_rfl) W0 (bA.cons (by kernel_rfl) aPA (bA.cons (by kernel_rfl) W0 (bA.nil)))) (by kernel_rfl)).mono (by
 rintro vs ⟨_,b0,rfl,⟨c0,rfl,w0⟩,_,b1,rfl,⟨c1,rfl,w1⟩,_,b2,rfl,⟨c2,rfl,w2⟩,rfl⟩;refine ⟨⟨c0,c1,c2⟩,?_,⟨w0,w1,w2⟩⟩;simp only [List.append_nil]
 rfl)
theorem ZI:cC Tryz.prog 135 (gO [.i .i64,.i .i64]):=(cC.struct (Ks:=[(gO [.i .i64]),(gO [.i .i64])]) Tryz.underlying135 (bA.cons (by kernel_rfl) yE (bA.cons (by kernel_rfl) yE (bA.nil))) (by kernel_rfl)).mono (fun vs h=>oE (rs:=[[.i .i64],[.i .i64]]) h)
theorem aJQ:cC Tryz.prog 137 (gO [.i .i64,.i .i64,.i .i64,.i .i64,.i .i64]):=(cC.struct (Ks:=[(gO [.i .i64,.i .i64]),(gO [.i .i64]),(gO [.i .i64,.i .i64])]) Tryz.underlying137 (bA.cons (by kernel_rfl) aCP (bA.cons (by kernel_rfl) yE (bA.cons (by kernel_rfl) ZI (bA.nil)))) (by kernel_rfl)).mono (fun vs h=>oE (rs:=[[.i .i64,.i .i64],[.i .i64],[.i .i64,.i .i64]]) h)
theorem aPC:cC Tryz.prog 38 (SQ [.i .i64,.i .i64,.i .i64,.i .i64,.i .i64]):=cC.slice (r:=[.i .i64,.i .i64,.i .i64,.i .i64,.i .i64]) Tryz.underlying38 aJQ (by kernel_rfl) (by decide)
structure aI.WF (c:aI):Prop where
 slots:aS.WF c.slots
 heap: ∀a∈c.heap,RT.wf [.i .i64,.i .i64,.i .i64,.i .i64,.i .i64] a
 where_: ∀a∈c.where_,RT.wf [.i .i64] a
def UO:List SV->Prop:=fun vs=> ∃c:aI,vs=dD.enc c/\c.WF
theorem aPD:cC Tryz.prog 40 UO:=(cC.struct (Ks:=[ZH,(SQ [.i .i64,.i .i64,.i .i64,.i .i64,.i .i64]),(SQ [.i .i64])]) Tryz.underlying40 (bA.cons (by kernel_rfl) aPB (bA.cons (by kernel_rfl) aPC (bA.cons (by kernel_rfl) W0 (bA.nil)))) (by kernel_rfl)).mono (by
 rintro vs ⟨_,b0,rfl,⟨c0,rfl,w0⟩,_,b1,rfl,⟨c1,rfl,w1⟩,_,b2,rfl,⟨c2,rfl,w2⟩,rfl⟩;refine ⟨⟨c0,c1,c2⟩,?_,⟨w0,w1,w2⟩⟩;simp only [List.append_nil]
 rfl)
theorem aJR:cC Tryz.prog 201 (gO [.i .i64,.i .i64,.i .i64]):=(cC.struct (Ks:=[(gO [.i .i64]),(gO [.i .i64,.i .i64])]) Tryz.underlying201 (bA.cons (by kernel_rfl) yE (bA.cons (by kernel_rfl) ZI (bA.nil))) (by kernel_rfl)).mono (fun vs h=>oE (rs:=[[.i .i64],[.i .i64,.i .i64]]) h)
theorem aPE:cC Tryz.prog 41 (SQ [.i .i64,.i .i64,.i .i64]):=cC.slice (r:=[.i .i64,.i .i64,.i .i64]) Tryz.underlying41 aJR (by kernel_rfl) (by decide)
structure aQ.WF (c:aQ):Prop where
 now:RT.wf [.i .i64,.i .i64] c.now
 field:Field.WF c.field
 certs:aV.WF c.certs
 agenda:aI.WF c.agenda
 due: ∀a∈c.due,RT.wf [.i .i64,.i .i64,.i .i64] a
def ZJ:List SV->Prop:=fun vs=> ∃c:aQ,vs=bU.enc c/\c.WF
theorem aPF:cC Tryz.prog 43 ZJ:=(cC.struct (Ks:=[(gO [.i .i64,.i .i64]),ZF,ZG,UO,(SQ [.i .i64,.i .i64,.i .i64])]) Tryz.underlying43 (bA.cons (by kernel_rfl) aCP (bA.cons (by kernel_rfl) aPw (bA.cons (by kernel_rfl) aPz (bA.cons (by kernel_rfl) aPD (bA.cons (by kernel_rfl) aPE (bA.nil)))))) (by kernel_rfl)).mono (by
 rintro vs ⟨_,b0,rfl,⟨c0,rfl,w0⟩,_,b1,rfl,⟨c1,rfl,w1⟩,_,b2,rfl,⟨c2,rfl,w2⟩,_,b3,rfl,⟨c3,rfl,w3⟩,_,b4,rfl,⟨c4,rfl,w4⟩,rfl⟩;refine ⟨⟨c0,c1,c2,c3,c4⟩,?_,⟨w0,w1,w2,w3,w4⟩⟩;simp only [List.append_nil]
 rfl)
theorem aPG:cC Tryz.prog 62 (gO [.i .i64,.i .i64,.i .i64]):=(cC.struct (Ks:=[(gO [.i .i64]),(gO [.i .i64]),(gO [.i .i64])]) Tryz.underlying62 (bA.cons (by kernel_rfl) yE (bA.cons (by kernel_rfl) yE (bA.cons (by kernel_rfl) yE (bA.nil)))) (by kernel_rfl)).mono (fun vs h=>oE (rs:=[[.i .i64],[.i .i64],[.i .i64]]) h)
theorem aPH:cC Tryz.prog 44 (SQ [.i .i64,.i .i64,.i .i64]):=cC.slice (r:=[.i .i64,.i .i64,.i .i64]) Tryz.underlying44 aPG (by kernel_rfl) (by decide)
structure mM.WF (c:mM):Prop where
 root:RT.wf [.i .i64] c.root
 nodes: ∀a∈c.nodes,RT.wf [.i .i64,.i .i64,.i .i64] a
def aCQ:List SV->Prop:=fun vs=> ∃c:mM,vs=pM.enc c/\c.WF
theorem aPI:cC Tryz.prog 46 aCQ:=(cC.struct (Ks:=[(gO [.i .i64]),(SQ [.i .i64,.i .i64,.i .i64])]) Tryz.underlying46 (bA.cons (by kernel_rfl) yE (bA.cons (by kernel_rfl) aPH (bA.nil))) (by kernel_rfl)).mono (by
 rintro vs ⟨_,b0,rfl,⟨c0,rfl,w0⟩,_,b1,rfl,⟨c1,rfl,w1⟩,rfl⟩;refine ⟨⟨c0,c1⟩,?_,⟨w0,w1⟩⟩;simp only [List.append_nil]
 rfl)
structure bO.WF (c:bO):Prop where
 clock:aQ.WF c.clock
 tree:mM.WF c.tree
def aCR:List SV->Prop:=fun vs=> ∃c:bO,vs=dS.enc c/\c.WF
theorem aPJ:cC Tryz.prog 48 aCR:=(cC.struct (Ks:=[ZJ,aCQ]) Tryz.underlying48 (bA.cons (by kernel_rfl) aPF (bA.cons (by kernel_rfl) aPI (bA.nil))) (by kernel_rfl)).mono (by
 rintro vs ⟨_,b0,rfl,⟨c0,rfl,w0⟩,_,b1,rfl,⟨c1,rfl,w1⟩,rfl⟩;refine ⟨⟨c0,c1⟩,?_,⟨w0,w1⟩⟩;simp only [List.append_nil]
 rfl)
theorem aR5:Tryz.prog.readableRec 48=true/\48<Tryz.prog.types.size:=⟨by kernel_rfl,of_decide_eq_true (by kernel_rfl)⟩
theorem aKr:Tryz.prog.readableRec 64=true/\64<Tryz.prog.types.size:=⟨by kernel_rfl,of_decide_eq_true (by kernel_rfl)⟩
theorem aTs:ownKnob Tryz.prog.godebug=none:=by kernel_rfl
theorem pO {a b:Bool} (h:a=true) (k:b=true):(a&&b)=true:=by rw [h,k];rfl
theorem Qk0:Rows.eeditPutsRow.wf (OpenSpec.ofChange Rows.eeditPutsSpec)=true:=by decide+kernel
theorem Qk1:laidOutB Tryz.prog=true:=by decide+kernel
theorem Qk2:mapsRowed Tryz.prog=true:=by decide+kernel
theorem Qk3:Tryz.f6.params.all (Tryz.prog.readableRec ·)=true:=by decide+kernel
theorem Qk4:namedTie Tryz.prog Rows.eeditPutsRow.named Rows.eeditPutsSpec.vars=true:=by decide+kernel
theorem Qk5:(Rows.eeditPutsRow.stops==[])=true:=by decide+kernel
theorem Qk6:(Tryz.prog.stops==[])=true:=by decide+kernel
theorem Qk7:(Rows.eeditPutsRow.knobs==[])=true:=by decide+kernel
theorem Qk8:(Tryz.prog.stopKnobs==[])=true:=by decide+kernel
theorem Qk9:(Rows.eeditPutsRow.inPlace==Tryz.prog.inPlace 6)=true:=by decide+kernel
theorem aTt:(Rows.eeditPutsRow.unfollowed==Tryz.prog.unfollowed 6)=true:=by decide+kernel
theorem aTu:(Rows.eeditPutsRow.recurses==Tryz.prog.recurses 6)=true:=by decide+kernel
theorem aTv:(Rows.eeditPutsRow.named==Tryz.prog.varsNamed 6)=true:=by decide+kernel
theorem aTw:(Rows.eeditPutsRow.maps==(Tryz.f6.params.toList++Rows.eeditPutsSpec.plain.varTypes Tryz.prog).any (Tryz.prog.mapsRec ·))=true:=by decide+kernel
theorem aTx:(Rows.eeditPutsRow.ifaces==(Tryz.f6.params.toList++Rows.eeditPutsSpec.plain.varTypes Tryz.prog).any (Tryz.prog.ifacesRec ·))=true:=by decide+kernel
theorem aTy:(Rows.eeditPutsRow.mapsOut==Tryz.prog.mapsAmong Tryz.f6.resultTypes.toList)=true:=by decide+kernel
theorem aTz:(Rows.eeditPutsRow.loops==(Tryz.f6.params.toList++Rows.eeditPutsSpec.plain.varTypes Tryz.prog).any (Tryz.prog.loopsFrom ·))=true:=by decide+kernel
theorem aTA:(Rows.eeditPutsRow.wideKeys==(Tryz.f6.params.toList++Rows.eeditPutsSpec.plain.varTypes Tryz.prog++Tryz.f6.resultTypes.toList).any (Tryz.prog.wideKeysFrom ·))=true:=by decide+kernel
theorem aTB:Rows.eeditPutsSpec.vars.all (Tryz.prog.varReadable ·)=true:=by decide+kernel
theorem aTC:Tryz.f6.resultTypes.all (fun t=>Tryz.prog.readableRec t&&decide (t<Tryz.prog.types.size))=true:=by decide+kernel
theorem aTD:(Rows.eeditPutsRow.ifacesOut==Tryz.f6.resultTypes.toList.any (Tryz.prog.ifacesRec ·))=true:=by decide+kernel
theorem aTE:(Rows.eeditPutsRow.loopsOut==Tryz.f6.resultTypes.toList.any (Tryz.prog.loopsFrom ·))=true:=by decide+kernel
theorem aTF:(Rows.eeditPutsRow.plainKeys==Tryz.prog.plainKeys)=true:=by decide+kernel
theorem aTG:Rows.eeditPutsRow.shortTexts.isNone=true:=by decide+kernel
theorem aTH:Tryz.prog.stopsHeard=true:=by decide+kernel
theorem aTI:Tryz.prog.mayEnter=true:=by decide+kernel
theorem aTJ:(Rows.eeditPutsRow.lifted==Tryz.prog.liftsFinal)=true:=by decide+kernel
theorem aTK:(Tryz.prog.make==some Rows.eeditPutsRow.make)=true:=by decide+kernel
theorem aTL:(Rows.eeditPutsRow.kinds==(if Rows.eeditPutsRow.domain.isEmpty then [] else Tryz.f6.params.toList.map fun t=>match Tryz.prog.underlying t with|some (.int k)=>some k|_=>none))=true:=by decide+kernel
theorem aTM:(Rows.eeditPutsRow.pinned==Rows.eeditPutsRow.pinnedBy)=true:=by decide+kernel
theorem aTN:(Rows.eeditPutsRow.veiled==(Tryz.f6.params.toList++Rows.eeditPutsSpec.plain.varTypes Tryz.prog++Tryz.f6.resultTypes.toList).any (Tryz.prog.veiledRec ·))=true:=by decide+kernel
theorem aTO:Rows.eeditPutsRow.veiledFits Tryz.prog Tryz.f6.params.toList (Tryz.f6.params.toList++Rows.eeditPutsSpec.plain.varTypes Tryz.prog++Tryz.f6.resultTypes.toList)=true:=by decide+kernel
set_option maxRecDepth 100000 in
theorem aJS:joinedFacts Tryz.prog 6 Tryz.f6 Rows.eeditPutsSpec Rows.eeditPutsRow=true:=(pO (pO (pO (pO (pO (pO (pO (pO (pO (pO (pO (pO (pO (pO (pO (pO (pO (pO (pO (pO (pO (pO (pO (pO (pO (pO (pO (pO (pO (pO (pO Qk0 Qk1) Qk2) Qk3) Qk4) Qk5) Qk6) Qk7) Qk8) Qk9) aTt) aTu) aTv) aTw) aTx) aTy) aTz) aTA) aTB) aTC) aTD) aTE) aTF) aTG) aTH) aTI) aTJ) aTK) aTL) aTM) aTN) aTO)
set_option maxRecDepth 100000 in
theorem aJT (os:Os) (started:os.Started) (H:Type) (enc:TypeId×Value->H):
 ReturnsInHanded {} Tryz.checked os 6 .any (Rows.eeditPutsSpec.pre6 enc Tryz.prog Tryz.f6 Rows.eeditPutsRow.domain false) (Rows.eeditPutsSpec.post enc Tryz.prog Tryz.f6 false true false false):=by
 refine returnsInHanded_of_change (C:=Tryz.checked) aTs started (by kernel_rfl) Tryz.func6
  (ChangeSpec.witness6 (enc:=enc) (C:=Tryz.checked) false ⟨#[],#[.agg #[.int .i64 0,.int .i64 0,.slice none 0 0,.int .i64 0,.slice none 0 0,.slice none 0 0,.slice none 0 0,.slice none 0 0,.slice none 0 0,.slice none 0 0,.slice none 0 0,.int .i64 0,.slice none 0 0],.agg #[.int .i64 0,.int .i64 0,.int .i64 0],.agg #[.int .i64 0,.int .i64 0,.int .i64 0]],[]⟩ 16 (by kernel_rfl) (by kernel_rfl) (by kernel_rfl) (by kernel_rfl)) ?_
 intro W base args ds gs before hval0 hW hcnd _;have hval: ∀(j:Nat) t v,Tryz.f6.params[j]? =some t->args[j]? =some v->Value.okWide Tryz.prog W .any base t v:=hval0;have hW':=hW;obtain ⟨p,q,hA0,hV,rfl,hfz,hnd⟩:=hW;have hA:DataW.TrodAll enc Tryz.prog W 0 (fun _=>true) true Tryz.f6.params.toList args.toList ds p:=hA0
 rw [Tryz.params6] at hA hval;obtain ⟨v0,vs0,d0,ds0,p0,q0,hargs,rfl,rfl,h0,r0⟩:=trodAll_cons hA;obtain ⟨v1,vs1,d1,ds1,p1,q1,rfl,rfl,rfl,h1,r1⟩:=trodAll_cons r0;obtain ⟨v2,vs2,d2,ds2,p2,q2,rfl,rfl,rfl,h2,r2⟩:=trodAll_cons r1;obtain ⟨rfl,rfl,rfl⟩:=trodAll_nil r2;obtain rfl:args= #[v0,v1,v2]:=by cases args;simp_all
 obtain ⟨rfl,rfl⟩:=trodVars_none hV;obtain ⟨_,g0,⟨a0,rfl,w0⟩,e0,k0⟩:=cC.argS aPJ Tryz.underlying48 (hval 0 48 v0 rfl rfl) h0;obtain rfl:g0=(pvL (dS.enc a0)).getD []:=by rw [e0];rfl
 obtain ⟨_,g1,⟨a1,rfl,w1⟩,e1,k1⟩:=cC.argS WZ Tryz.underlying64 (hval 1 64 v1 rfl rfl) h1;obtain rfl:g1=(pvL (RT.sv [.i .i64,.i .i64,.i .i64] a1)).getD []:=by rw [e1];rfl
 obtain ⟨_,g2,⟨a2,rfl,w2⟩,e2,k2⟩:=cC.argS WZ Tryz.underlying64 (hval 2 64 v2 rfl rfl) h2;obtain rfl:g2=(pvL (RT.sv [.i .i64,.i .i64,.i .i64] a2)).getD []:=by rw [e2];rfl
 obtain ⟨n,s,z,hrun⟩:=aK.runA aRW aKh (a:=(a0,a1,a2)) (DF a0 a1 a2 (aAE.of w0.clock.now w0.clock.agenda.heap)) (ps:=[.agg ((pvL (dS.enc a0)).getD []),.agg ((pvL (RT.sv [.i .i64,.i .i64,.i .i64] a1)).getD []),.agg ((pvL (RT.sv [.i .i64,.i .i64,.i .i64] a2)).getD [])]) rfl rfl
 refine (Z5 (P:=Tryz.prog) (prims:=fun _=>true) (TT.tabOK XY) (TT.primsOK XY) nL hrun (us:=[v0,v1,v2]) (w:=W) (.cons _ _ _ _ k0 (.cons _ _ _ _ k1 (.cons _ _ _ _ k2 (.nil))))).mono fun e W' ⟨he,hb⟩=>?_
 subst he;exact ⟨_,rfl,aA7 (P:=Tryz.prog) (bt:=4) Qk1 rfl rfl (by kernel_rfl) (by
  rw [Tryz.params6];intro t ht;simp only [List.mem_cons,List.not_mem_nil,or_false] at ht;rcases ht with rfl|rfl|rfl
  · exact aR5
  · exact aKr
  · exact aKr) hW' rfl hb⟩
theorem eeditPuts_holds:Rows.EeditPutsSaid:=
 OpenClaim.holds_of_wide 6 Tryz.f6 rfl rfl rfl rfl rfl rfl rfl ⟨rfl,rfl,rfl,rfl,rfl⟩ rfl rfl rfl rfl rfl (by kernel_rfl) Tryz.func6 aJS
  (of_decide_eq_true (by kernel_rfl)) (by unfold Func.isWrapper;first|(rw [if_pos (by decide+kernel)];kernel_rfl)|(rw [if_neg (by decide+kernel)];exact ⟨rfl,rfl⟩))
  (fun os started H enc _=>aJT os started H enc)
end Go.Proofs.YthljmpcakagceaaGreat
