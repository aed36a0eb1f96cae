/- The law KheapParts returns true: its plain function gives true whatever comes in. -/
import Derived.Test.YtfejhjllooomlaaGreatRows
import Derived.Test.YtfejhjllooomlaaGreatFQS1
import Derived.Test.YtfejhjllooomlaaGreatFQM4
import Derived.Test.YtfejhjllooomlaaGreatFVm3
namespace Go.Proofs.YtfejhjllooomlaaGreat
open Go.ChangeShapes Go.WideShapes Go.ChangeAt Go.RowKit Go.Vm
theorem WA:cD Tryz.prog 2 (gY [.i .i64]):=cD.int Tryz.underlying2
theorem O2:cD Tryz.prog 23 (gY [.i .i64,.i .i64]):=(cD.struct (Ks:=[(gY [.i .i64]),(gY [.i .i64])]) Tryz.underlying23 (bB.cons (by kernel_rfl) WA (bB.cons (by kernel_rfl) WA (bB.nil))) (by kernel_rfl)).mono (fun vs h=>nW (rs:=[[.i .i64],[.i .i64]]) h)
theorem DH:cD Tryz.prog 3 (gY [.i .i64]):=cD.int Tryz.underlying3
theorem aLT:cD Tryz.prog 76 (gY [.i .i64,.i .i64,.i .i64]):=(cD.struct (Ks:=[(gY [.i .i64]),(gY [.i .i64]),(gY [.i .i64])]) Tryz.underlying76 (bB.cons (by kernel_rfl) DH (bB.cons (by kernel_rfl) WA (bB.cons (by kernel_rfl) WA (bB.nil)))) (by kernel_rfl)).mono (fun vs h=>nW (rs:=[[.i .i64],[.i .i64],[.i .i64]]) h)
theorem aLU:cD Tryz.prog 24 (SL [.i .i64,.i .i64,.i .i64]):=cD.slice (r:=[.i .i64,.i .i64,.i .i64]) Tryz.underlying24 aLT (by kernel_rfl) (by decide)
structure Field.WF (c:Field):Prop where
 points: ∀a∈c.points,RT.wf [.i .i64,.i .i64,.i .i64] a
def WB:List SV->Prop:=fun vs=> ∃c:Field,vs=fI.enc c/\c.WF
theorem aLV:cD Tryz.prog 26 WB:=(cD.struct (Ks:=[(SL [.i .i64,.i .i64,.i .i64])]) Tryz.underlying26 (bB.cons (by kernel_rfl) aLU (bB.nil)) (by kernel_rfl)).mono (by
 rintro vs ⟨_,b0,rfl,⟨c0,rfl,w0⟩,rfl⟩;refine ⟨⟨c0⟩,?_,⟨w0⟩⟩;simp only [List.append_nil]
 rfl)
theorem aLW:cD Tryz.prog 71 (gY [.i .i64,.i .i64]):=(cD.struct (Ks:=[(gY [.i .i64]),(gY [.i .i64])]) Tryz.underlying71 (bB.cons (by kernel_rfl) DH (bB.cons (by kernel_rfl) DH (bB.nil))) (by kernel_rfl)).mono (fun vs h=>nW (rs:=[[.i .i64],[.i .i64]]) h)
theorem aGL:cD Tryz.prog 156 (gY [.i .i64,.i .i64,.i .i64]):=(cD.struct (Ks:=[(gY [.i .i64]),(gY [.i .i64,.i .i64])]) Tryz.underlying156 (bB.cons (by kernel_rfl) DH (bB.cons (by kernel_rfl) aLW (bB.nil))) (by kernel_rfl)).mono (fun vs h=>nW (rs:=[[.i .i64],[.i .i64,.i .i64]]) h)
theorem aLX:cD Tryz.prog 27 (SL [.i .i64,.i .i64,.i .i64]):=cD.slice (r:=[.i .i64,.i .i64,.i .i64]) Tryz.underlying27 aGL (by kernel_rfl) (by decide)
structure aW.WF (c:aW):Prop where
 next_:RT.wf [.i .i64] c.next_
 list: ∀a∈c.list,RT.wf [.i .i64,.i .i64,.i .i64] a
def WC:List SV->Prop:=fun vs=> ∃c:aW,vs=mK.enc c/\c.WF
theorem aLY:cD Tryz.prog 29 WC:=(cD.struct (Ks:=[(gY [.i .i64]),(SL [.i .i64,.i .i64,.i .i64])]) Tryz.underlying29 (bB.cons (by kernel_rfl) DH (bB.cons (by kernel_rfl) aLX (bB.nil))) (by kernel_rfl)).mono (by
 rintro vs ⟨_,b0,rfl,⟨c0,rfl,w0⟩,_,b1,rfl,⟨c1,rfl,w1⟩,rfl⟩;refine ⟨⟨c0,c1⟩,?_,⟨w0,w1⟩⟩;simp only [List.append_nil]
 rfl)
theorem O3:cD Tryz.prog 30 (SL [.i .i64]):=cD.slice (r:=[.i .i64]) Tryz.underlying30 DH (by kernel_rfl) (by decide)
theorem aN3:cD Tryz.prog 4 (gY [.b]):=cD.bool Tryz.underlying4
theorem aLZ:cD Tryz.prog 31 (SL [.b]):=cD.slice (r:=[.b]) Tryz.underlying31 aN3 (by kernel_rfl) (by decide)
structure aS.WF (c:aS):Prop where
 uses: ∀a∈c.uses,RT.wf [.i .i64] a
 used: ∀a∈c.used,RT.wf [.b] a
 free: ∀a∈c.free,RT.wf [.i .i64] a
def WD:List SV->Prop:=fun vs=> ∃c:aS,vs=lR.enc c/\c.WF
theorem aL0:cD Tryz.prog 33 WD:=(cD.struct (Ks:=[(SL [.i .i64]),(SL [.b]),(SL [.i .i64])]) Tryz.underlying33 (bB.cons (by kernel_rfl) O3 (bB.cons (by kernel_rfl) aLZ (bB.cons (by kernel_rfl) O3 (bB.nil)))) (by kernel_rfl)).mono (by
 rintro vs ⟨_,b0,rfl,⟨c0,rfl,w0⟩,_,b1,rfl,⟨c1,rfl,w1⟩,_,b2,rfl,⟨c2,rfl,w2⟩,rfl⟩;refine ⟨⟨c0,c1,c2⟩,?_,⟨w0,w1,w2⟩⟩;simp only [List.append_nil]
 rfl)
theorem WE:cD Tryz.prog 126 (gY [.i .i64,.i .i64]):=(cD.struct (Ks:=[(gY [.i .i64]),(gY [.i .i64])]) Tryz.underlying126 (bB.cons (by kernel_rfl) DH (bB.cons (by kernel_rfl) DH (bB.nil))) (by kernel_rfl)).mono (fun vs h=>nW (rs:=[[.i .i64],[.i .i64]]) h)
theorem aGM:cD Tryz.prog 128 (gY [.i .i64,.i .i64,.i .i64,.i .i64,.i .i64]):=(cD.struct (Ks:=[(gY [.i .i64,.i .i64]),(gY [.i .i64]),(gY [.i .i64,.i .i64])]) Tryz.underlying128 (bB.cons (by kernel_rfl) O2 (bB.cons (by kernel_rfl) DH (bB.cons (by kernel_rfl) WE (bB.nil)))) (by kernel_rfl)).mono (fun vs h=>nW (rs:=[[.i .i64,.i .i64],[.i .i64],[.i .i64,.i .i64]]) h)
theorem aL1:cD Tryz.prog 34 (SL [.i .i64,.i .i64,.i .i64,.i .i64,.i .i64]):=cD.slice (r:=[.i .i64,.i .i64,.i .i64,.i .i64,.i .i64]) Tryz.underlying34 aGM (by kernel_rfl) (by decide)
structure aG.WF (c:aG):Prop where
 slots:aS.WF c.slots
 heap: ∀a∈c.heap,RT.wf [.i .i64,.i .i64,.i .i64,.i .i64,.i .i64] a
 where_: ∀a∈c.where_,RT.wf [.i .i64] a
def SK:List SV->Prop:=fun vs=> ∃c:aG,vs=eV.enc c/\c.WF
theorem aL2:cD Tryz.prog 36 SK:=(cD.struct (Ks:=[WD,(SL [.i .i64,.i .i64,.i .i64,.i .i64,.i .i64]),(SL [.i .i64])]) Tryz.underlying36 (bB.cons (by kernel_rfl) aL0 (bB.cons (by kernel_rfl) aL1 (bB.cons (by kernel_rfl) O3 (bB.nil)))) (by kernel_rfl)).mono (by
 rintro vs ⟨_,b0,rfl,⟨c0,rfl,w0⟩,_,b1,rfl,⟨c1,rfl,w1⟩,_,b2,rfl,⟨c2,rfl,w2⟩,rfl⟩;refine ⟨⟨c0,c1,c2⟩,?_,⟨w0,w1,w2⟩⟩;simp only [List.append_nil]
 rfl)
theorem aGN:cD Tryz.prog 160 (gY [.i .i64,.i .i64,.i .i64]):=(cD.struct (Ks:=[(gY [.i .i64]),(gY [.i .i64,.i .i64])]) Tryz.underlying160 (bB.cons (by kernel_rfl) DH (bB.cons (by kernel_rfl) WE (bB.nil))) (by kernel_rfl)).mono (fun vs h=>nW (rs:=[[.i .i64],[.i .i64,.i .i64]]) h)
theorem aL3:cD Tryz.prog 37 (SL [.i .i64,.i .i64,.i .i64]):=cD.slice (r:=[.i .i64,.i .i64,.i .i64]) Tryz.underlying37 aGN (by kernel_rfl) (by decide)
structure aH.WF (c:aH):Prop where
 now:RT.wf [.i .i64,.i .i64] c.now
 field:Field.WF c.field
 certs:aW.WF c.certs
 agenda:aG.WF c.agenda
 due: ∀a∈c.due,RT.wf [.i .i64,.i .i64,.i .i64] a
def WG:List SV->Prop:=fun vs=> ∃c:aH,vs=dP.enc c/\c.WF
theorem aL4:cD Tryz.prog 39 WG:=(cD.struct (Ks:=[(gY [.i .i64,.i .i64]),WB,WC,SK,(SL [.i .i64,.i .i64,.i .i64])]) Tryz.underlying39 (bB.cons (by kernel_rfl) O2 (bB.cons (by kernel_rfl) aLV (bB.cons (by kernel_rfl) aLY (bB.cons (by kernel_rfl) aL2 (bB.cons (by kernel_rfl) aL3 (bB.nil)))))) (by kernel_rfl)).mono (by
 rintro vs ⟨_,b0,rfl,⟨c0,rfl,w0⟩,_,b1,rfl,⟨c1,rfl,w1⟩,_,b2,rfl,⟨c2,rfl,w2⟩,_,b3,rfl,⟨c3,rfl,w3⟩,_,b4,rfl,⟨c4,rfl,w4⟩,rfl⟩;refine ⟨⟨c0,c1,c2,c3,c4⟩,?_,⟨w0,w1,w2,w3,w4⟩⟩;simp only [List.append_nil]
 rfl)
structure dN.WF (c:dN):Prop where
 clock:aH.WF c.clock
 heap: ∀a∈c.heap,RT.wf [.i .i64] a
def aGO:List SV->Prop:=fun vs=> ∃c:dN,vs=kV.enc c/\c.WF
theorem aL5:cD Tryz.prog 41 aGO:=(cD.struct (Ks:=[WG,(SL [.i .i64])]) Tryz.underlying41 (bB.cons (by kernel_rfl) aL4 (bB.cons (by kernel_rfl) O3 (bB.nil))) (by kernel_rfl)).mono (by
 rintro vs ⟨_,b0,rfl,⟨c0,rfl,w0⟩,_,b1,rfl,⟨c1,rfl,w1⟩,rfl⟩;refine ⟨⟨c0,c1⟩,?_,⟨w0,w1⟩⟩;simp only [List.append_nil]
 rfl)
theorem aN4:Tryz.prog.readableRec 41=true/\41<Tryz.prog.types.size:=⟨by kernel_rfl,of_decide_eq_true (by kernel_rfl)⟩
theorem aHk:Tryz.prog.readableRec 23=true/\23<Tryz.prog.types.size:=⟨by kernel_rfl,of_decide_eq_true (by kernel_rfl)⟩
theorem aPs:ownKnob Tryz.prog.godebug=none:=by kernel_rfl
theorem nO {a b:Bool} (h:a=true) (k:b=true):(a&&b)=true:=by rw [h,k];rfl
theorem Qk0:Rows.kheapPartsRow.wf (OpenSpec.ofChange Rows.kheapPartsSpec)=true:=by decide+kernel
theorem Qk1:laidOutB Tryz.prog=true:=by decide+kernel
theorem Qk2:mapsRowed Tryz.prog=true:=by decide+kernel
theorem Qk3:Tryz.f3.params.all (Tryz.prog.readableRec ·)=true:=by decide+kernel
theorem Qk4:namedTie Tryz.prog Rows.kheapPartsRow.named Rows.kheapPartsSpec.vars=true:=by decide+kernel
theorem Qk5:(Rows.kheapPartsRow.stops==[])=true:=by decide+kernel
theorem Qk6:(Tryz.prog.stops==[])=true:=by decide+kernel
theorem Qk7:(Rows.kheapPartsRow.knobs==[])=true:=by decide+kernel
theorem Qk8:(Tryz.prog.stopKnobs==[])=true:=by decide+kernel
theorem Qk9:(Rows.kheapPartsRow.inPlace==Tryz.prog.inPlace 3)=true:=by decide+kernel
theorem aPt:(Rows.kheapPartsRow.unfollowed==Tryz.prog.unfollowed 3)=true:=by decide+kernel
theorem aPu:(Rows.kheapPartsRow.recurses==Tryz.prog.recurses 3)=true:=by decide+kernel
theorem aPv:(Rows.kheapPartsRow.named==Tryz.prog.varsNamed 3)=true:=by decide+kernel
theorem aPw:(Rows.kheapPartsRow.maps==(Tryz.f3.params.toList++Rows.kheapPartsSpec.plain.varTypes Tryz.prog).any (Tryz.prog.mapsRec ·))=true:=by decide+kernel
theorem aPx:(Rows.kheapPartsRow.ifaces==(Tryz.f3.params.toList++Rows.kheapPartsSpec.plain.varTypes Tryz.prog).any (Tryz.prog.ifacesRec ·))=true:=by decide+kernel
theorem aPy:(Rows.kheapPartsRow.mapsOut==Tryz.prog.mapsAmong Tryz.f3.resultTypes.toList)=true:=by decide+kernel
theorem aPz:(Rows.kheapPartsRow.loops==(Tryz.f3.params.toList++Rows.kheapPartsSpec.plain.varTypes Tryz.prog).any (Tryz.prog.loopsFrom ·))=true:=by decide+kernel
theorem aPA:(Rows.kheapPartsRow.wideKeys==(Tryz.f3.params.toList++Rows.kheapPartsSpec.plain.varTypes Tryz.prog++Tryz.f3.resultTypes.toList).any (Tryz.prog.wideKeysFrom ·))=true:=by decide+kernel
theorem aPB:Rows.kheapPartsSpec.vars.all (Tryz.prog.varReadable ·)=true:=by decide+kernel
theorem aPC:Tryz.f3.resultTypes.all (fun t=>Tryz.prog.readableRec t&&decide (t<Tryz.prog.types.size))=true:=by decide+kernel
theorem aPD:(Rows.kheapPartsRow.ifacesOut==Tryz.f3.resultTypes.toList.any (Tryz.prog.ifacesRec ·))=true:=by decide+kernel
theorem aPE:(Rows.kheapPartsRow.loopsOut==Tryz.f3.resultTypes.toList.any (Tryz.prog.loopsFrom ·))=true:=by decide+kernel
theorem aPF:(Rows.kheapPartsRow.plainKeys==Tryz.prog.plainKeys)=true:=by decide+kernel
theorem aPG:Rows.kheapPartsRow.shortTexts.isNone=true:=by decide+kernel
theorem aPH:Tryz.prog.stopsHeard=true:=by decide+kernel
theorem aPI:Tryz.prog.mayEnter=true:=by decide+kernel
theorem aPJ:(Rows.kheapPartsRow.lifted==Tryz.prog.liftsFinal)=true:=by decide+kernel
theorem aPK:(Tryz.prog.make==some Rows.kheapPartsRow.make)=true:=by decide+kernel
theorem aPL:(Rows.kheapPartsRow.kinds==(if Rows.kheapPartsRow.domain.isEmpty then [] else Tryz.f3.params.toList.map fun t=>match Tryz.prog.underlying t with|some (.int k)=>some k|_=>none))=true:=by decide+kernel
theorem aPM:(Rows.kheapPartsRow.pinned==Rows.kheapPartsRow.pinnedBy)=true:=by decide+kernel
theorem aPN:(Rows.kheapPartsRow.veiled==(Tryz.f3.params.toList++Rows.kheapPartsSpec.plain.varTypes Tryz.prog++Tryz.f3.resultTypes.toList).any (Tryz.prog.veiledRec ·))=true:=by decide+kernel
theorem aPO:Rows.kheapPartsRow.veiledFits Tryz.prog Tryz.f3.params.toList (Tryz.f3.params.toList++Rows.kheapPartsSpec.plain.varTypes Tryz.prog++Tryz.f3.resultTypes.toList)=true:=by decide+kernel
set_option maxRecDepth 100000 in
theorem aGP:joinedFacts Tryz.prog 3 Tryz.f3 Rows.kheapPartsSpec Rows.kheapPartsRow=true:=(nO (nO (nO (nO (nO (nO (nO (nO (nO (nO (nO (nO (nO (nO (nO (nO (nO (nO (nO (nO (nO (nO (nO (nO (nO (nO (nO (nO (nO (nO (nO Qk0 Qk1) Qk2) Qk3) Qk4) Qk5) Qk6) Qk7) Qk8) Qk9) aPt) aPu) aPv) aPw) aPx) aPy) aPz) aPA) aPB) aPC) aPD) aPE) aPF) aPG) aPH) aPI) aPJ) aPK) aPL) aPM) aPN) aPO)
set_option maxRecDepth 100000 in
theorem aGQ (os:Os) (started:os.Started) (H:Type) (enc:TypeId×Value->H):
 ReturnsInHanded {} Tryz.checked os 3 .any (Rows.kheapPartsSpec.pre6 enc Tryz.prog Tryz.f3 Rows.kheapPartsRow.domain false) (Rows.kheapPartsSpec.post enc Tryz.prog Tryz.f3 false true false false):=by
 refine returnsInHanded_of_change (C:=Tryz.checked) aPs started (by kernel_rfl) Tryz.func3
  (ChangeSpec.witness6 (enc:=enc) (C:=Tryz.checked) false ⟨#[],#[.agg #[.int .i64 0,.int .i64 0,.slice none 0 0,.int .i64 0,.slice none 0 0,.slice none 0 0,.slice none 0 0,.slice none 0 0,.slice none 0 0,.slice none 0 0,.slice none 0 0,.slice none 0 0],.agg #[.int .i64 0,.int .i64 0],.agg #[.int .i64 0,.int .i64 0]],[]⟩ 16 (by kernel_rfl) (by kernel_rfl) (by kernel_rfl) (by kernel_rfl)) ?_
 intro W base args ds gs before hval0 hW hcnd _;have hval: ∀(j:Nat) t v,Tryz.f3.params[j]? =some t->args[j]? =some v->Value.okWide Tryz.prog W .any base t v:=hval0;have hW':=hW;obtain ⟨p,q,hA0,hV,rfl,hfz,hnd⟩:=hW;have hA:DataW.TrodAll enc Tryz.prog W 0 (fun _=>true) true Tryz.f3.params.toList args.toList ds p:=hA0
 rw [Tryz.params3] at hA hval;obtain ⟨v0,vs0,d0,ds0,p0,q0,hargs,rfl,rfl,h0,r0⟩:=trodAll_cons hA;obtain ⟨v1,vs1,d1,ds1,p1,q1,rfl,rfl,rfl,h1,r1⟩:=trodAll_cons r0;obtain ⟨v2,vs2,d2,ds2,p2,q2,rfl,rfl,rfl,h2,r2⟩:=trodAll_cons r1;obtain ⟨rfl,rfl,rfl⟩:=trodAll_nil r2;obtain rfl:args= #[v0,v1,v2]:=by cases args;simp_all
 obtain ⟨rfl,rfl⟩:=trodVars_none hV;obtain ⟨_,g0,⟨a0,rfl,w0⟩,e0,k0⟩:=cD.argS aL5 Tryz.underlying41 (hval 0 41 v0 rfl rfl) h0;obtain rfl:g0=(pvL (kV.enc a0)).getD []:=by rw [e0];rfl
 obtain ⟨_,g1,⟨a1,rfl,w1⟩,e1,k1⟩:=cD.argS O2 Tryz.underlying23 (hval 1 23 v1 rfl rfl) h1;obtain rfl:g1=(pvL (RT.sv [.i .i64,.i .i64] a1)).getD []:=by rw [e1];rfl
 obtain ⟨_,g2,⟨a2,rfl,w2⟩,e2,k2⟩:=cD.argS O2 Tryz.underlying23 (hval 2 23 v2 rfl rfl) h2;obtain rfl:g2=(pvL (RT.sv [.i .i64,.i .i64] a2)).getD []:=by rw [e2];rfl
 obtain ⟨n,s,z,hrun⟩:=aK.runA aNV aHd (a:=(a0,a1,a2)) (AM a0 a1 a2 (UF.of w0.clock.now w0.clock.agenda.heap) ⟨BA w1.1,BA w1.2⟩ ⟨BA w2.1,BA w2.2⟩) (ps:=[.agg ((pvL (kV.enc a0)).getD []),.agg ((pvL (RT.sv [.i .i64,.i .i64] a1)).getD []),.agg ((pvL (RT.sv [.i .i64,.i .i64] a2)).getD [])]) rfl rfl
 refine (W5 (P:=Tryz.prog) (prims:=fun _=>true) (TT.tabOK VC) (TT.primsOK VC) lW hrun (us:=[v0,v1,v2]) (w:=W) (.cons _ _ _ _ k0 (.cons _ _ _ _ k1 (.cons _ _ _ _ k2 (.nil))))).mono fun e W' ⟨he,hb⟩=>?_
 subst he;exact ⟨_,rfl,YS (P:=Tryz.prog) (bt:=4) Qk1 rfl rfl (by kernel_rfl) (by
  rw [Tryz.params3];intro t ht;simp only [List.mem_cons,List.not_mem_nil,or_false] at ht;rcases ht with rfl|rfl|rfl
  · exact aN4
  · exact aHk
  · exact aHk) hW' rfl hb⟩
theorem kheapParts_holds:Rows.KheapPartsSaid:=
 OpenClaim.holds_of_wide 3 Tryz.f3 rfl rfl rfl rfl rfl rfl rfl ⟨rfl,rfl,rfl,rfl,rfl⟩ rfl rfl rfl rfl rfl (by kernel_rfl) Tryz.func3 aGP
  (of_decide_eq_true (by kernel_rfl)) (by unfold Func.isWrapper;first|(rw [if_pos (by decide+kernel)];kernel_rfl)|(rw [if_neg (by decide+kernel)];exact ⟨rfl,rfl⟩))
  (fun os started H enc _=>aGQ os started H enc)
end Go.Proofs.YtfejhjllooomlaaGreat
