/- The law HeditPuts returns true: its plain function gives true whatever comes in. -/
import Derived.Test.YtfejhjllooomlaaGreatRows
import Derived.Test.YtfejhjllooomlaaGreatQS2
import Derived.Test.YtfejhjllooomlaaGreatQM4
import Derived.Test.YtfejhjllooomlaaGreatVm3
namespace Go.Proofs.YtfejhjllooomlaaGreat
open Go.ChangeShapes Go.WideShapes Go.ChangeAt Go.RowKit Go.Vm
theorem YY:cQ Tryz.prog 2 (iJ [.i .i64]):=cQ.int Tryz.underlying2
theorem aCK:cQ Tryz.prog 23 (iJ [.i .i64,.i .i64]):=(cQ.struct (Ks:=[(iJ [.i .i64]),(iJ [.i .i64])]) Tryz.underlying23 (bD.cons (by kernel_rfl) YY (bD.cons (by kernel_rfl) YY (bD.nil))) (by kernel_rfl)).mono (fun vs h=>pU (rs:=[[.i .i64],[.i .i64]]) h)
theorem EZ:cQ Tryz.prog 3 (iJ [.i .i64]):=cQ.int Tryz.underlying3
theorem WM:cQ Tryz.prog 76 (iJ [.i .i64,.i .i64,.i .i64]):=(cQ.struct (Ks:=[(iJ [.i .i64]),(iJ [.i .i64]),(iJ [.i .i64])]) Tryz.underlying76 (bD.cons (by kernel_rfl) EZ (bD.cons (by kernel_rfl) YY (bD.cons (by kernel_rfl) YY (bD.nil)))) (by kernel_rfl)).mono (fun vs h=>pU (rs:=[[.i .i64],[.i .i64],[.i .i64]]) h)
theorem aOO:cQ Tryz.prog 24 (UF [.i .i64,.i .i64,.i .i64]):=cQ.slice (r:=[.i .i64,.i .i64,.i .i64]) Tryz.underlying24 WM (by kernel_rfl) (by decide)
structure Field.WF (c:Field):Prop where
 points: ∀a∈c.points,RT.wf [.i .i64,.i .i64,.i .i64] a
def YZ:List SV->Prop:=fun vs=> ∃c:Field,vs=cC.enc c/\c.WF
theorem aOP:cQ Tryz.prog 26 YZ:=(cQ.struct (Ks:=[(UF [.i .i64,.i .i64,.i .i64])]) Tryz.underlying26 (bD.cons (by kernel_rfl) aOO (bD.nil)) (by kernel_rfl)).mono (by
 rintro vs ⟨_,b0,rfl,⟨c0,rfl,w0⟩,rfl⟩;refine ⟨⟨c0⟩,?_,⟨w0⟩⟩;simp only [List.append_nil]
 rfl)
theorem aOQ:cQ Tryz.prog 71 (iJ [.i .i64,.i .i64]):=(cQ.struct (Ks:=[(iJ [.i .i64]),(iJ [.i .i64])]) Tryz.underlying71 (bD.cons (by kernel_rfl) EZ (bD.cons (by kernel_rfl) EZ (bD.nil))) (by kernel_rfl)).mono (fun vs h=>pU (rs:=[[.i .i64],[.i .i64]]) h)
theorem aI8:cQ Tryz.prog 156 (iJ [.i .i64,.i .i64,.i .i64]):=(cQ.struct (Ks:=[(iJ [.i .i64]),(iJ [.i .i64,.i .i64])]) Tryz.underlying156 (bD.cons (by kernel_rfl) EZ (bD.cons (by kernel_rfl) aOQ (bD.nil))) (by kernel_rfl)).mono (fun vs h=>pU (rs:=[[.i .i64],[.i .i64,.i .i64]]) h)
theorem aOR:cQ Tryz.prog 27 (UF [.i .i64,.i .i64,.i .i64]):=cQ.slice (r:=[.i .i64,.i .i64,.i .i64]) Tryz.underlying27 aI8 (by kernel_rfl) (by decide)
structure aU.WF (c:aU):Prop where
 next_:RT.wf [.i .i64] c.next_
 list: ∀a∈c.list,RT.wf [.i .i64,.i .i64,.i .i64] a
def Y0:List SV->Prop:=fun vs=> ∃c:aU,vs=gS.enc c/\c.WF
theorem aOS:cQ Tryz.prog 29 Y0:=(cQ.struct (Ks:=[(iJ [.i .i64]),(UF [.i .i64,.i .i64,.i .i64])]) Tryz.underlying29 (bD.cons (by kernel_rfl) EZ (bD.cons (by kernel_rfl) aOR (bD.nil))) (by kernel_rfl)).mono (by
 rintro vs ⟨_,b0,rfl,⟨c0,rfl,w0⟩,_,b1,rfl,⟨c1,rfl,w1⟩,rfl⟩;refine ⟨⟨c0,c1⟩,?_,⟨w0,w1⟩⟩;simp only [List.append_nil]
 rfl)
theorem QW:cQ Tryz.prog 30 (UF [.i .i64]):=cQ.slice (r:=[.i .i64]) Tryz.underlying30 EZ (by kernel_rfl) (by decide)
theorem aRj:cQ Tryz.prog 4 (iJ [.b]):=cQ.bool Tryz.underlying4
theorem aOT:cQ Tryz.prog 31 (UF [.b]):=cQ.slice (r:=[.b]) Tryz.underlying31 aRj (by kernel_rfl) (by decide)
structure aR.WF (c:aR):Prop where
 uses: ∀a∈c.uses,RT.wf [.i .i64] a
 used: ∀a∈c.used,RT.wf [.b] a
 free: ∀a∈c.free,RT.wf [.i .i64] a
def Y1:List SV->Prop:=fun vs=> ∃c:aR,vs=gL.enc c/\c.WF
theorem aOU:cQ Tryz.prog 33 Y1:=(cQ.struct (Ks:=[(UF [.i .i64]),(UF [.b]),(UF [.i .i64])]) Tryz.underlying33 (bD.cons (by kernel_rfl) QW (bD.cons (by kernel_rfl) aOT (bD.cons (by kernel_rfl) QW (bD.nil)))) (by kernel_rfl)).mono (by
 rintro vs ⟨_,b0,rfl,⟨c0,rfl,w0⟩,_,b1,rfl,⟨c1,rfl,w1⟩,_,b2,rfl,⟨c2,rfl,w2⟩,rfl⟩;refine ⟨⟨c0,c1,c2⟩,?_,⟨w0,w1,w2⟩⟩;simp only [List.append_nil]
 rfl)
theorem Y2:cQ Tryz.prog 126 (iJ [.i .i64,.i .i64]):=(cQ.struct (Ks:=[(iJ [.i .i64]),(iJ [.i .i64])]) Tryz.underlying126 (bD.cons (by kernel_rfl) EZ (bD.cons (by kernel_rfl) EZ (bD.nil))) (by kernel_rfl)).mono (fun vs h=>pU (rs:=[[.i .i64],[.i .i64]]) h)
theorem aI9:cQ Tryz.prog 128 (iJ [.i .i64,.i .i64,.i .i64,.i .i64,.i .i64]):=(cQ.struct (Ks:=[(iJ [.i .i64,.i .i64]),(iJ [.i .i64]),(iJ [.i .i64,.i .i64])]) Tryz.underlying128 (bD.cons (by kernel_rfl) aCK (bD.cons (by kernel_rfl) EZ (bD.cons (by kernel_rfl) Y2 (bD.nil)))) (by kernel_rfl)).mono (fun vs h=>pU (rs:=[[.i .i64,.i .i64],[.i .i64],[.i .i64,.i .i64]]) h)
theorem aOV:cQ Tryz.prog 34 (UF [.i .i64,.i .i64,.i .i64,.i .i64,.i .i64]):=cQ.slice (r:=[.i .i64,.i .i64,.i .i64,.i .i64,.i .i64]) Tryz.underlying34 aI9 (by kernel_rfl) (by decide)
structure aG.WF (c:aG):Prop where
 slots:aR.WF c.slots
 heap: ∀a∈c.heap,RT.wf [.i .i64,.i .i64,.i .i64,.i .i64,.i .i64] a
 where_: ∀a∈c.where_,RT.wf [.i .i64] a
def UE:List SV->Prop:=fun vs=> ∃c:aG,vs=dE.enc c/\c.WF
theorem aOW:cQ Tryz.prog 36 UE:=(cQ.struct (Ks:=[Y1,(UF [.i .i64,.i .i64,.i .i64,.i .i64,.i .i64]),(UF [.i .i64])]) Tryz.underlying36 (bD.cons (by kernel_rfl) aOU (bD.cons (by kernel_rfl) aOV (bD.cons (by kernel_rfl) QW (bD.nil)))) (by kernel_rfl)).mono (by
 rintro vs ⟨_,b0,rfl,⟨c0,rfl,w0⟩,_,b1,rfl,⟨c1,rfl,w1⟩,_,b2,rfl,⟨c2,rfl,w2⟩,rfl⟩;refine ⟨⟨c0,c1,c2⟩,?_,⟨w0,w1,w2⟩⟩;simp only [List.append_nil]
 rfl)
theorem aJa:cQ Tryz.prog 160 (iJ [.i .i64,.i .i64,.i .i64]):=(cQ.struct (Ks:=[(iJ [.i .i64]),(iJ [.i .i64,.i .i64])]) Tryz.underlying160 (bD.cons (by kernel_rfl) EZ (bD.cons (by kernel_rfl) Y2 (bD.nil))) (by kernel_rfl)).mono (fun vs h=>pU (rs:=[[.i .i64],[.i .i64,.i .i64]]) h)
theorem aOX:cQ Tryz.prog 37 (UF [.i .i64,.i .i64,.i .i64]):=cQ.slice (r:=[.i .i64,.i .i64,.i .i64]) Tryz.underlying37 aJa (by kernel_rfl) (by decide)
structure aP.WF (c:aP):Prop where
 now:RT.wf [.i .i64,.i .i64] c.now
 field:Field.WF c.field
 certs:aU.WF c.certs
 agenda:aG.WF c.agenda
 due: ∀a∈c.due,RT.wf [.i .i64,.i .i64,.i .i64] a
def Y3:List SV->Prop:=fun vs=> ∃c:aP,vs=bV.enc c/\c.WF
theorem aOY:cQ Tryz.prog 39 Y3:=(cQ.struct (Ks:=[(iJ [.i .i64,.i .i64]),YZ,Y0,UE,(UF [.i .i64,.i .i64,.i .i64])]) Tryz.underlying39 (bD.cons (by kernel_rfl) aCK (bD.cons (by kernel_rfl) aOP (bD.cons (by kernel_rfl) aOS (bD.cons (by kernel_rfl) aOW (bD.cons (by kernel_rfl) aOX (bD.nil)))))) (by kernel_rfl)).mono (by
 rintro vs ⟨_,b0,rfl,⟨c0,rfl,w0⟩,_,b1,rfl,⟨c1,rfl,w1⟩,_,b2,rfl,⟨c2,rfl,w2⟩,_,b3,rfl,⟨c3,rfl,w3⟩,_,b4,rfl,⟨c4,rfl,w4⟩,rfl⟩;refine ⟨⟨c0,c1,c2,c3,c4⟩,?_,⟨w0,w1,w2,w3,w4⟩⟩;simp only [List.append_nil]
 rfl)
structure cD.WF (c:cD):Prop where
 clock:aP.WF c.clock
 heap: ∀a∈c.heap,RT.wf [.i .i64] a
def aJb:List SV->Prop:=fun vs=> ∃c:cD,vs=gC.enc c/\c.WF
theorem aOZ:cQ Tryz.prog 41 aJb:=(cQ.struct (Ks:=[Y3,(UF [.i .i64])]) Tryz.underlying41 (bD.cons (by kernel_rfl) aOY (bD.cons (by kernel_rfl) QW (bD.nil))) (by kernel_rfl)).mono (by
 rintro vs ⟨_,b0,rfl,⟨c0,rfl,w0⟩,_,b1,rfl,⟨c1,rfl,w1⟩,rfl⟩;refine ⟨⟨c0,c1⟩,?_,⟨w0,w1⟩⟩;simp only [List.append_nil]
 rfl)
theorem aRk:Tryz.prog.readableRec 41=true/\41<Tryz.prog.types.size:=⟨by kernel_rfl,of_decide_eq_true (by kernel_rfl)⟩
theorem aJH:Tryz.prog.readableRec 76=true/\76<Tryz.prog.types.size:=⟨by kernel_rfl,of_decide_eq_true (by kernel_rfl)⟩
theorem aST:ownKnob Tryz.prog.godebug=none:=by kernel_rfl
theorem pM {a b:Bool} (h:a=true) (k:b=true):(a&&b)=true:=by rw [h,k];rfl
theorem Qk0:Rows.heditPutsRow.wf (OpenSpec.ofChange Rows.heditPutsSpec)=true:=by decide+kernel
theorem Qk1:laidOutB Tryz.prog=true:=by decide+kernel
theorem Qk2:mapsRowed Tryz.prog=true:=by decide+kernel
theorem Qk3:Tryz.f6.params.all (Tryz.prog.readableRec ·)=true:=by decide+kernel
theorem Qk4:namedTie Tryz.prog Rows.heditPutsRow.named Rows.heditPutsSpec.vars=true:=by decide+kernel
theorem Qk5:(Rows.heditPutsRow.stops==[])=true:=by decide+kernel
theorem Qk6:(Tryz.prog.stops==[])=true:=by decide+kernel
theorem Qk7:(Rows.heditPutsRow.knobs==[])=true:=by decide+kernel
theorem Qk8:(Tryz.prog.stopKnobs==[])=true:=by decide+kernel
theorem Qk9:(Rows.heditPutsRow.inPlace==Tryz.prog.inPlace 6)=true:=by decide+kernel
theorem aSU:(Rows.heditPutsRow.unfollowed==Tryz.prog.unfollowed 6)=true:=by decide+kernel
theorem aSV:(Rows.heditPutsRow.recurses==Tryz.prog.recurses 6)=true:=by decide+kernel
theorem aSW:(Rows.heditPutsRow.named==Tryz.prog.varsNamed 6)=true:=by decide+kernel
theorem aSX:(Rows.heditPutsRow.maps==(Tryz.f6.params.toList++Rows.heditPutsSpec.plain.varTypes Tryz.prog).any (Tryz.prog.mapsRec ·))=true:=by decide+kernel
theorem aSY:(Rows.heditPutsRow.ifaces==(Tryz.f6.params.toList++Rows.heditPutsSpec.plain.varTypes Tryz.prog).any (Tryz.prog.ifacesRec ·))=true:=by decide+kernel
theorem aSZ:(Rows.heditPutsRow.mapsOut==Tryz.prog.mapsAmong Tryz.f6.resultTypes.toList)=true:=by decide+kernel
theorem aS0:(Rows.heditPutsRow.loops==(Tryz.f6.params.toList++Rows.heditPutsSpec.plain.varTypes Tryz.prog).any (Tryz.prog.loopsFrom ·))=true:=by decide+kernel
theorem aS1:(Rows.heditPutsRow.wideKeys==(Tryz.f6.params.toList++Rows.heditPutsSpec.plain.varTypes Tryz.prog++Tryz.f6.resultTypes.toList).any (Tryz.prog.wideKeysFrom ·))=true:=by decide+kernel
theorem aS2:Rows.heditPutsSpec.vars.all (Tryz.prog.varReadable ·)=true:=by decide+kernel
theorem aS3:Tryz.f6.resultTypes.all (fun t=>Tryz.prog.readableRec t&&decide (t<Tryz.prog.types.size))=true:=by decide+kernel
theorem aS4:(Rows.heditPutsRow.ifacesOut==Tryz.f6.resultTypes.toList.any (Tryz.prog.ifacesRec ·))=true:=by decide+kernel
theorem aS5:(Rows.heditPutsRow.loopsOut==Tryz.f6.resultTypes.toList.any (Tryz.prog.loopsFrom ·))=true:=by decide+kernel
theorem aS6:(Rows.heditPutsRow.plainKeys==Tryz.prog.plainKeys)=true:=by decide+kernel
theorem aS7:Rows.heditPutsRow.shortTexts.isNone=true:=by decide+kernel
theorem aS8:Tryz.prog.stopsHeard=true:=by decide+kernel
theorem aS9:Tryz.prog.mayEnter=true:=by decide+kernel
theorem aTa:(Rows.heditPutsRow.lifted==Tryz.prog.liftsFinal)=true:=by decide+kernel
theorem aTb:(Tryz.prog.make==some Rows.heditPutsRow.make)=true:=by decide+kernel
theorem aTc:(Rows.heditPutsRow.kinds==(if Rows.heditPutsRow.domain.isEmpty then [] else Tryz.f6.params.toList.map fun t=>match Tryz.prog.underlying t with|some (.int k)=>some k|_=>none))=true:=by decide+kernel
theorem aTd:(Rows.heditPutsRow.pinned==Rows.heditPutsRow.pinnedBy)=true:=by decide+kernel
theorem aTe:(Rows.heditPutsRow.veiled==(Tryz.f6.params.toList++Rows.heditPutsSpec.plain.varTypes Tryz.prog++Tryz.f6.resultTypes.toList).any (Tryz.prog.veiledRec ·))=true:=by decide+kernel
theorem aTf:Rows.heditPutsRow.veiledFits Tryz.prog Tryz.f6.params.toList (Tryz.f6.params.toList++Rows.heditPutsSpec.plain.varTypes Tryz.prog++Tryz.f6.resultTypes.toList)=true:=by decide+kernel
set_option maxRecDepth 100000 in
theorem aJc:joinedFacts Tryz.prog 6 Tryz.f6 Rows.heditPutsSpec Rows.heditPutsRow=true:=(pM (pM (pM (pM (pM (pM (pM (pM (pM (pM (pM (pM (pM (pM (pM (pM (pM (pM (pM (pM (pM (pM (pM (pM (pM (pM (pM (pM (pM (pM (pM Qk0 Qk1) Qk2) Qk3) Qk4) Qk5) Qk6) Qk7) Qk8) Qk9) aSU) aSV) aSW) aSX) aSY) aSZ) aS0) aS1) aS2) aS3) aS4) aS5) aS6) aS7) aS8) aS9) aTa) aTb) aTc) aTd) aTe) aTf)
set_option maxRecDepth 100000 in
theorem aJd (os:Os) (started:os.Started) (H:Type) (enc:TypeId×Value->H):
 ReturnsInHanded {} Tryz.checked os 6 .any (Rows.heditPutsSpec.pre6 enc Tryz.prog Tryz.f6 Rows.heditPutsRow.domain false) (Rows.heditPutsSpec.post enc Tryz.prog Tryz.f6 false true false false):=by
 refine returnsInHanded_of_change (C:=Tryz.checked) aST started (by kernel_rfl) Tryz.func6
  (ChangeSpec.witness6 (enc:=enc) (C:=Tryz.checked) false ⟨#[],#[.agg #[.int .i64 0,.int .i64 0,.slice none 0 0,.int .i64 0,.slice none 0 0,.slice none 0 0,.slice none 0 0,.slice none 0 0,.slice none 0 0,.slice none 0 0,.slice none 0 0,.slice none 0 0],.agg #[.int .i64 0,.int .i64 0,.int .i64 0],.agg #[.int .i64 0,.int .i64 0,.int .i64 0]],[]⟩ 16 (by kernel_rfl) (by kernel_rfl) (by kernel_rfl) (by kernel_rfl)) ?_
 intro W base args ds gs before hval0 hW hcnd _;have hval: ∀(j:Nat) t v,Tryz.f6.params[j]? =some t->args[j]? =some v->Value.okWide Tryz.prog W .any base t v:=hval0;have hW':=hW;obtain ⟨p,q,hA0,hV,rfl,hfz,hnd⟩:=hW;have hA:DataW.TrodAll enc Tryz.prog W 0 (fun _=>true) true Tryz.f6.params.toList args.toList ds p:=hA0
 rw [Tryz.params6] at hA hval;obtain ⟨v0,vs0,d0,ds0,p0,q0,hargs,rfl,rfl,h0,r0⟩:=trodAll_cons hA;obtain ⟨v1,vs1,d1,ds1,p1,q1,rfl,rfl,rfl,h1,r1⟩:=trodAll_cons r0;obtain ⟨v2,vs2,d2,ds2,p2,q2,rfl,rfl,rfl,h2,r2⟩:=trodAll_cons r1;obtain ⟨rfl,rfl,rfl⟩:=trodAll_nil r2;obtain rfl:args= #[v0,v1,v2]:=by cases args;simp_all
 obtain ⟨rfl,rfl⟩:=trodVars_none hV;obtain ⟨_,g0,⟨a0,rfl,w0⟩,e0,k0⟩:=cQ.argS aOZ Tryz.underlying41 (hval 0 41 v0 rfl rfl) h0;obtain rfl:g0=(pvL (gC.enc a0)).getD []:=by rw [e0];rfl
 obtain ⟨_,g1,⟨a1,rfl,w1⟩,e1,k1⟩:=cQ.argS WM Tryz.underlying76 (hval 1 76 v1 rfl rfl) h1;obtain rfl:g1=(pvL (RT.sv [.i .i64,.i .i64,.i .i64] a1)).getD []:=by rw [e1];rfl
 obtain ⟨_,g2,⟨a2,rfl,w2⟩,e2,k2⟩:=cQ.argS WM Tryz.underlying76 (hval 2 76 v2 rfl rfl) h2;obtain rfl:g2=(pvL (RT.sv [.i .i64,.i .i64,.i .i64] a2)).getD []:=by rw [e2];rfl
 obtain ⟨n,s,z,hrun⟩:=aM.runA aQ6 aJA (a:=(a0,a1,a2)) (DF a0 a1 a2 (aAm.of w0.clock.now w0.clock.agenda.heap)) (ps:=[.agg ((pvL (gC.enc a0)).getD []),.agg ((pvL (RT.sv [.i .i64,.i .i64,.i .i64] a1)).getD []),.agg ((pvL (RT.sv [.i .i64,.i .i64,.i .i64] a2)).getD [])]) rfl rfl
 refine (ZQ (P:=Tryz.prog) (prims:=fun _=>true) (TT.tabOK XK) (TT.primsOK XK) nH hrun (us:=[v0,v1,v2]) (w:=W) (.cons _ _ _ _ k0 (.cons _ _ _ _ k1 (.cons _ _ _ _ k2 (.nil))))).mono fun e W' ⟨he,hb⟩=>?_
 subst he;exact ⟨_,rfl,aAP (P:=Tryz.prog) (bt:=4) Qk1 rfl rfl (by kernel_rfl) (by
  rw [Tryz.params6];intro t ht;simp only [List.mem_cons,List.not_mem_nil,or_false] at ht;rcases ht with rfl|rfl|rfl
  · exact aRk
  · exact aJH
  · exact aJH) hW' rfl hb⟩
theorem heditPuts_holds:Rows.HeditPutsSaid:=
 OpenClaim.holds_of_wide 6 Tryz.f6 rfl rfl rfl rfl rfl rfl rfl ⟨rfl,rfl,rfl,rfl,rfl⟩ rfl rfl rfl rfl rfl (by kernel_rfl) Tryz.func6 aJc
  (of_decide_eq_true (by kernel_rfl)) (by unfold Func.isWrapper;first|(rw [if_pos (by decide+kernel)];kernel_rfl)|(rw [if_neg (by decide+kernel)];exact ⟨rfl,rfl⟩))
  (fun os started H enc _=>aJd os started H enc)
end Go.Proofs.YtfejhjllooomlaaGreat
