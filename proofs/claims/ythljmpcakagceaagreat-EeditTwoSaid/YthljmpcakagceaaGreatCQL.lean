/- The law EeditTwo returns true: its plain function gives true whatever comes in. -/
import Derived.Test.YthljmpcakagceaaGreatRows
import Derived.Test.YthljmpcakagceaaGreatCQS2
import Derived.Test.YthljmpcakagceaaGreatCQM4
import Derived.Test.YthljmpcakagceaaGreatCVm3
namespace Go.Proofs.YthljmpcakagceaaGreat
open Go.ChangeShapes Go.WideShapes Go.ChangeAt Go.RowKit Go.Vm
theorem Y7:bY Tryz.prog 2 (gN [.i .i64]):=bY.int Tryz.underlying2
theorem aCK:bY Tryz.prog 26 (gN [.i .i64,.i .i64]):=(bY.struct (Ks:=[(gN [.i .i64]),(gN [.i .i64])]) Tryz.underlying26 (bA.cons (by kernel_rfl) Y7 (bA.cons (by kernel_rfl) Y7 (bA.nil))) (by kernel_rfl)).mono (fun vs h=>oB (rs:=[[.i .i64],[.i .i64]]) h)
theorem xT:bY Tryz.prog 3 (gN [.i .i64]):=bY.int Tryz.underlying3
theorem WZ:bY Tryz.prog 64 (gN [.i .i64,.i .i64,.i .i64]):=(bY.struct (Ks:=[(gN [.i .i64]),(gN [.i .i64]),(gN [.i .i64])]) Tryz.underlying64 (bA.cons (by kernel_rfl) xT (bA.cons (by kernel_rfl) Y7 (bA.cons (by kernel_rfl) Y7 (bA.nil)))) (by kernel_rfl)).mono (fun vs h=>oB (rs:=[[.i .i64],[.i .i64],[.i .i64]]) h)
theorem aPj:bY Tryz.prog 22 (SQ [.i .i64,.i .i64,.i .i64]):=bY.slice (r:=[.i .i64,.i .i64,.i .i64]) Tryz.underlying22 WZ (by kernel_rfl) (by decide)
structure Field.WF (c:Field):Prop where
 points: ∀a∈c.points,RT.wf [.i .i64,.i .i64,.i .i64] a
def Y8:List SV->Prop:=fun vs=> ∃c:Field,vs=bW.enc c/\c.WF
theorem aPk:bY Tryz.prog 24 Y8:=(bY.struct (Ks:=[(SQ [.i .i64,.i .i64,.i .i64])]) Tryz.underlying24 (bA.cons (by kernel_rfl) aPj (bA.nil)) (by kernel_rfl)).mono (by
 rintro vs ⟨_,b0,rfl,⟨c0,rfl,w0⟩,rfl⟩;refine ⟨⟨c0⟩,?_,⟨w0⟩⟩;simp only [List.append_nil]
 rfl)
theorem aPl:bY Tryz.prog 66 (gN [.i .i64,.i .i64]):=(bY.struct (Ks:=[(gN [.i .i64]),(gN [.i .i64])]) Tryz.underlying66 (bA.cons (by kernel_rfl) xT (bA.cons (by kernel_rfl) xT (bA.nil))) (by kernel_rfl)).mono (fun vs h=>oB (rs:=[[.i .i64],[.i .i64]]) h)
theorem aJP:bY Tryz.prog 197 (gN [.i .i64,.i .i64,.i .i64]):=(bY.struct (Ks:=[(gN [.i .i64]),(gN [.i .i64,.i .i64])]) Tryz.underlying197 (bA.cons (by kernel_rfl) xT (bA.cons (by kernel_rfl) aPl (bA.nil))) (by kernel_rfl)).mono (fun vs h=>oB (rs:=[[.i .i64],[.i .i64,.i .i64]]) h)
theorem aPm:bY Tryz.prog 31 (SQ [.i .i64,.i .i64,.i .i64]):=bY.slice (r:=[.i .i64,.i .i64,.i .i64]) Tryz.underlying31 aJP (by kernel_rfl) (by decide)
structure aV.WF (c:aV):Prop where
 next_:RT.wf [.i .i64] c.next_
 list: ∀a∈c.list,RT.wf [.i .i64,.i .i64,.i .i64] a
def Y9:List SV->Prop:=fun vs=> ∃c:aV,vs=iT.enc c/\c.WF
theorem aPn:bY Tryz.prog 33 Y9:=(bY.struct (Ks:=[(gN [.i .i64]),(SQ [.i .i64,.i .i64,.i .i64])]) Tryz.underlying33 (bA.cons (by kernel_rfl) xT (bA.cons (by kernel_rfl) aPm (bA.nil))) (by kernel_rfl)).mono (by
 rintro vs ⟨_,b0,rfl,⟨c0,rfl,w0⟩,_,b1,rfl,⟨c1,rfl,w1⟩,rfl⟩;refine ⟨⟨c0,c1⟩,?_,⟨w0,w1⟩⟩;simp only [List.append_nil]
 rfl)
theorem W0:bY Tryz.prog 34 (SQ [.i .i64]):=bY.slice (r:=[.i .i64]) Tryz.underlying34 xT (by kernel_rfl) (by decide)
theorem aRQ:bY Tryz.prog 4 (gN [.b]):=bY.bool Tryz.underlying4
theorem aPo:bY Tryz.prog 35 (SQ [.b]):=bY.slice (r:=[.b]) Tryz.underlying35 aRQ (by kernel_rfl) (by decide)
structure aR.WF (c:aR):Prop where
 uses: ∀a∈c.uses,RT.wf [.i .i64] a
 used: ∀a∈c.used,RT.wf [.b] a
 free: ∀a∈c.free,RT.wf [.i .i64] a
def ZA:List SV->Prop:=fun vs=> ∃c:aR,vs=gU.enc c/\c.WF
theorem aPp:bY Tryz.prog 37 ZA:=(bY.struct (Ks:=[(SQ [.i .i64]),(SQ [.b]),(SQ [.i .i64])]) Tryz.underlying37 (bA.cons (by kernel_rfl) W0 (bA.cons (by kernel_rfl) aPo (bA.cons (by kernel_rfl) W0 (bA.nil)))) (by kernel_rfl)).mono (by
 rintro vs ⟨_,b0,rfl,⟨c0,rfl,w0⟩,_,b1,rfl,⟨c1,rfl,w1⟩,_,b2,rfl,⟨c2,rfl,w2⟩,rfl⟩;refine ⟨⟨c0,c1,c2⟩,?_,⟨w0,w1,w2⟩⟩;simp only [List.append_nil]
 rfl)
theorem ZB:bY Tryz.prog 135 (gN [.i .i64,.i .i64]):=(bY.struct (Ks:=[(gN [.i .i64]),(gN [.i .i64])]) Tryz.underlying135 (bA.cons (by kernel_rfl) xT (bA.cons (by kernel_rfl) xT (bA.nil))) (by kernel_rfl)).mono (fun vs h=>oB (rs:=[[.i .i64],[.i .i64]]) h)
theorem aJQ:bY Tryz.prog 137 (gN [.i .i64,.i .i64,.i .i64,.i .i64,.i .i64]):=(bY.struct (Ks:=[(gN [.i .i64,.i .i64]),(gN [.i .i64]),(gN [.i .i64,.i .i64])]) Tryz.underlying137 (bA.cons (by kernel_rfl) aCK (bA.cons (by kernel_rfl) xT (bA.cons (by kernel_rfl) ZB (bA.nil)))) (by kernel_rfl)).mono (fun vs h=>oB (rs:=[[.i .i64,.i .i64],[.i .i64],[.i .i64,.i .i64]]) h)
theorem aPq:bY Tryz.prog 38 (SQ [.i .i64,.i .i64,.i .i64,.i .i64,.i .i64]):=bY.slice (r:=[.i .i64,.i .i64,.i .i64,.i .i64,.i .i64]) Tryz.underlying38 aJQ (by kernel_rfl) (by decide)
structure aI.WF (c:aI):Prop where
 slots:aR.WF c.slots
 heap: ∀a∈c.heap,RT.wf [.i .i64,.i .i64,.i .i64,.i .i64,.i .i64] a
 where_: ∀a∈c.where_,RT.wf [.i .i64] a
def UQ:List SV->Prop:=fun vs=> ∃c:aI,vs=dK.enc c/\c.WF
theorem aPr:bY Tryz.prog 40 UQ:=(bY.struct (Ks:=[ZA,(SQ [.i .i64,.i .i64,.i .i64,.i .i64,.i .i64]),(SQ [.i .i64])]) Tryz.underlying40 (bA.cons (by kernel_rfl) aPp (bA.cons (by kernel_rfl) aPq (bA.cons (by kernel_rfl) W0 (bA.nil)))) (by kernel_rfl)).mono (by
 rintro vs ⟨_,b0,rfl,⟨c0,rfl,w0⟩,_,b1,rfl,⟨c1,rfl,w1⟩,_,b2,rfl,⟨c2,rfl,w2⟩,rfl⟩;refine ⟨⟨c0,c1,c2⟩,?_,⟨w0,w1,w2⟩⟩;simp only [List.append_nil]
 rfl)
theorem aJR:bY Tryz.prog 201 (gN [.i .i64,.i .i64,.i .i64]):=(bY.struct (Ks:=[(gN [.i .i64]),(gN [.i .i64,.i .i64])]) Tryz.underlying201 (bA.cons (by kernel_rfl) xT (bA.cons (by kernel_rfl) ZB (bA.nil))) (by kernel_rfl)).mono (fun vs h=>oB (rs:=[[.i .i64],[.i .i64,.i .i64]]) h)
theorem aPs:bY Tryz.prog 41 (SQ [.i .i64,.i .i64,.i .i64]):=bY.slice (r:=[.i .i64,.i .i64,.i .i64]) Tryz.underlying41 aJR (by kernel_rfl) (by decide)
structure aQ.WF (c:aQ):Prop where
 now:RT.wf [.i .i64,.i .i64] c.now
 field:Field.WF c.field
 certs:aV.WF c.certs
 agenda:aI.WF c.agenda
 due: ∀a∈c.due,RT.wf [.i .i64,.i .i64,.i .i64] a
def ZC:List SV->Prop:=fun vs=> ∃c:aQ,vs=bX.enc c/\c.WF
theorem aPt:bY Tryz.prog 43 ZC:=(bY.struct (Ks:=[(gN [.i .i64,.i .i64]),Y8,Y9,UQ,(SQ [.i .i64,.i .i64,.i .i64])]) Tryz.underlying43 (bA.cons (by kernel_rfl) aCK (bA.cons (by kernel_rfl) aPk (bA.cons (by kernel_rfl) aPn (bA.cons (by kernel_rfl) aPr (bA.cons (by kernel_rfl) aPs (bA.nil)))))) (by kernel_rfl)).mono (by
 rintro vs ⟨_,b0,rfl,⟨c0,rfl,w0⟩,_,b1,rfl,⟨c1,rfl,w1⟩,_,b2,rfl,⟨c2,rfl,w2⟩,_,b3,rfl,⟨c3,rfl,w3⟩,_,b4,rfl,⟨c4,rfl,w4⟩,rfl⟩;refine ⟨⟨c0,c1,c2,c3,c4⟩,?_,⟨w0,w1,w2,w3,w4⟩⟩;simp only [List.append_nil]
 rfl)
theorem aPu:bY Tryz.prog 62 (gN [.i .i64,.i .i64,.i .i64]):=(bY.struct (Ks:=[(gN [.i .i64]),(gN [.i .i64]),(gN [.i .i64])]) Tryz.underlying62 (bA.cons (by kernel_rfl) xT (bA.cons (by kernel_rfl) xT (bA.cons (by kernel_rfl) xT (bA.nil)))) (by kernel_rfl)).mono (fun vs h=>oB (rs:=[[.i .i64],[.i .i64],[.i .i64]]) h)
theorem aPv:bY Tryz.prog 44 (SQ [.i .i64,.i .i64,.i .i64]):=bY.slice (r:=[.i .i64,.i .i64,.i .i64]) Tryz.underlying44 aPu (by kernel_rfl) (by decide)
structure oM.WF (c:oM):Prop where
 root:RT.wf [.i .i64] c.root
 nodes: ∀a∈c.nodes,RT.wf [.i .i64,.i .i64,.i .i64] a
def aCL:List SV->Prop:=fun vs=> ∃c:oM,vs=vU.enc c/\c.WF
theorem aPw:bY Tryz.prog 46 aCL:=(bY.struct (Ks:=[(gN [.i .i64]),(SQ [.i .i64,.i .i64,.i .i64])]) Tryz.underlying46 (bA.cons (by kernel_rfl) xT (bA.cons (by kernel_rfl) aPv (bA.nil))) (by kernel_rfl)).mono (by
 rintro vs ⟨_,b0,rfl,⟨c0,rfl,w0⟩,_,b1,rfl,⟨c1,rfl,w1⟩,rfl⟩;refine ⟨⟨c0,c1⟩,?_,⟨w0,w1⟩⟩;simp only [List.append_nil]
 rfl)
structure bN.WF (c:bN):Prop where
 clock:aQ.WF c.clock
 tree:oM.WF c.tree
def aCM:List SV->Prop:=fun vs=> ∃c:bN,vs=fW.enc c/\c.WF
theorem aPx:bY Tryz.prog 48 aCM:=(bY.struct (Ks:=[ZC,aCL]) Tryz.underlying48 (bA.cons (by kernel_rfl) aPt (bA.cons (by kernel_rfl) aPw (bA.nil))) (by kernel_rfl)).mono (by
 rintro vs ⟨_,b0,rfl,⟨c0,rfl,w0⟩,_,b1,rfl,⟨c1,rfl,w1⟩,rfl⟩;refine ⟨⟨c0,c1⟩,?_,⟨w0,w1⟩⟩;simp only [List.append_nil]
 rfl)
theorem aRR:Tryz.prog.readableRec 48=true/\48<Tryz.prog.types.size:=⟨by kernel_rfl,of_decide_eq_true (by kernel_rfl)⟩
theorem aKp:Tryz.prog.readableRec 64=true/\64<Tryz.prog.types.size:=⟨by kernel_rfl,of_decide_eq_true (by kernel_rfl)⟩
theorem aTa:Tryz.prog.readableRec 3=true/\3<Tryz.prog.types.size:=⟨by kernel_rfl,of_decide_eq_true (by kernel_rfl)⟩
theorem aTb:ownKnob Tryz.prog.godebug=none:=by kernel_rfl
theorem pI {a b:Bool} (h:a=true) (k:b=true):(a&&b)=true:=by rw [h,k];rfl
theorem Qk0:Rows.eeditTwoRow.wf (OpenSpec.ofChange Rows.eeditTwoSpec)=true:=by decide+kernel
theorem Qk1:laidOutB Tryz.prog=true:=by decide+kernel
theorem Qk2:mapsRowed Tryz.prog=true:=by decide+kernel
theorem Qk3:Tryz.f7.params.all (Tryz.prog.readableRec ·)=true:=by decide+kernel
theorem Qk4:namedTie Tryz.prog Rows.eeditTwoRow.named Rows.eeditTwoSpec.vars=true:=by decide+kernel
theorem Qk5:(Rows.eeditTwoRow.stops==[])=true:=by decide+kernel
theorem Qk6:(Tryz.prog.stops==[])=true:=by decide+kernel
theorem Qk7:(Rows.eeditTwoRow.knobs==[])=true:=by decide+kernel
theorem Qk8:(Tryz.prog.stopKnobs==[])=true:=by decide+kernel
theorem Qk9:(Rows.eeditTwoRow.inPlace==Tryz.prog.inPlace 7)=true:=by decide+kernel
theorem aTc:(Rows.eeditTwoRow.unfollowed==Tryz.prog.unfollowed 7)=true:=by decide+kernel
theorem aTd:(Rows.eeditTwoRow.recurses==Tryz.prog.recurses 7)=true:=by decide+kernel
theorem aTe:(Rows.eeditTwoRow.named==Tryz.prog.varsNamed 7)=true:=by decide+kernel
theorem aTf:(Rows.eeditTwoRow.maps==(Tryz.f7.params.toList++Rows.eeditTwoSpec.plain.varTypes Tryz.prog).any (Tryz.prog.mapsRec ·))=true:=by decide+kernel
theorem aTg:(Rows.eeditTwoRow.ifaces==(Tryz.f7.params.toList++Rows.eeditTwoSpec.plain.varTypes Tryz.prog).any (Tryz.prog.ifacesRec ·))=true:=by decide+kernel
theorem aTh:(Rows.eeditTwoRow.mapsOut==Tryz.prog.mapsAmong Tryz.f7.resultTypes.toList)=true:=by decide+kernel
theorem aTi:(Rows.eeditTwoRow.loops==(Tryz.f7.params.toList++Rows.eeditTwoSpec.plain.varTypes Tryz.prog).any (Tryz.prog.loopsFrom ·))=true:=by decide+kernel
theorem aTj:(Rows.eeditTwoRow.wideKeys==(Tryz.f7.params.toList++Rows.eeditTwoSpec.plain.varTypes Tryz.prog++Tryz.f7.resultTypes.toList).any (Tryz.prog.wideKeysFrom ·))=true:=by decide+kernel
theorem aTk:Rows.eeditTwoSpec.vars.all (Tryz.prog.varReadable ·)=true:=by decide+kernel
theorem aTl:Tryz.f7.resultTypes.all (fun t=>Tryz.prog.readableRec t&&decide (t<Tryz.prog.types.size))=true:=by decide+kernel
theorem aTm:(Rows.eeditTwoRow.ifacesOut==Tryz.f7.resultTypes.toList.any (Tryz.prog.ifacesRec ·))=true:=by decide+kernel
theorem aTn:(Rows.eeditTwoRow.loopsOut==Tryz.f7.resultTypes.toList.any (Tryz.prog.loopsFrom ·))=true:=by decide+kernel
theorem aTo:(Rows.eeditTwoRow.plainKeys==Tryz.prog.plainKeys)=true:=by decide+kernel
theorem aTp:Rows.eeditTwoRow.shortTexts.isNone=true:=by decide+kernel
theorem aTq:Tryz.prog.stopsHeard=true:=by decide+kernel
theorem aTr:Tryz.prog.mayEnter=true:=by decide+kernel
theorem aTs:(Rows.eeditTwoRow.lifted==Tryz.prog.liftsFinal)=true:=by decide+kernel
theorem aTt:(Tryz.prog.make==some Rows.eeditTwoRow.make)=true:=by decide+kernel
theorem aTu:(Rows.eeditTwoRow.kinds==(if Rows.eeditTwoRow.domain.isEmpty then [] else Tryz.f7.params.toList.map fun t=>match Tryz.prog.underlying t with|some (.int k)=>some k|_=>none))=true:=by decide+kernel
theorem aTv:(Rows.eeditTwoRow.pinned==Rows.eeditTwoRow.pinnedBy)=true:=by decide+kernel
theorem aTw:(Rows.eeditTwoRow.veiled==(Tryz.f7.params.toList++Rows.eeditTwoSpec.plain.varTypes Tryz.prog++Tryz.f7.resultTypes.toList).any (Tryz.prog.veiledRec ·))=true:=by decide+kernel
theorem aTx:Rows.eeditTwoRow.veiledFits Tryz.prog Tryz.f7.params.toList (Tryz.f7.params.toList++Rows.eeditTwoSpec.plain.varTypes Tryz.prog++Tryz.f7.resultTypes.toList)=true:=by decide+kernel
set_option maxRecDepth 100000 in
theorem aJS:joinedFacts Tryz.prog 7 Tryz.f7 Rows.eeditTwoSpec Rows.eeditTwoRow=true:=(pI (pI (pI (pI (pI (pI (pI (pI (pI (pI (pI (pI (pI (pI (pI (pI (pI (pI (pI (pI (pI (pI (pI (pI (pI (pI (pI (pI (pI (pI (pI Qk0 Qk1) Qk2) Qk3) Qk4) Qk5) Qk6) Qk7) Qk8) Qk9) aTc) aTd) aTe) aTf) aTg) aTh) aTi) aTj) aTk) aTl) aTm) aTn) aTo) aTp) aTq) aTr) aTs) aTt) aTu) aTv) aTw) aTx)
set_option maxRecDepth 100000 in
theorem aJT (os:Os) (started:os.Started) (H:Type) (enc:TypeId×Value->H):
 ReturnsInHanded {} Tryz.checked os 7 .any (Rows.eeditTwoSpec.pre6 enc Tryz.prog Tryz.f7 Rows.eeditTwoRow.domain false) (Rows.eeditTwoSpec.post enc Tryz.prog Tryz.f7 false true false false):=by
 refine returnsInHanded_of_change (C:=Tryz.checked) aTb started (by kernel_rfl) Tryz.func7
  (ChangeSpec.witness6 (enc:=enc) (C:=Tryz.checked) false ⟨#[],#[.agg #[.int .i64 0,.int .i64 0,.slice none 0 0,.int .i64 0,.slice none 0 0,.slice none 0 0,.slice none 0 0,.slice none 0 0,.slice none 0 0,.slice none 0 0,.slice none 0 0,.int .i64 0,.slice none 0 0],.agg #[.int .i64 0,.int .i64 0,.int .i64 0],.agg #[.int .i64 0,.int .i64 0,.int .i64 0],.int .i64 0],[]⟩ 16 (by kernel_rfl) (by kernel_rfl) (by kernel_rfl) (by kernel_rfl)) ?_
 intro W base args ds gs before hval0 hW hcnd _;have hval: ∀(j:Nat) t v,Tryz.f7.params[j]? =some t->args[j]? =some v->Value.okWide Tryz.prog W .any base t v:=hval0;have hW':=hW;obtain ⟨p,q,hA0,hV,rfl,hfz,hnd⟩:=hW;have hA:DataW.TrodAll enc Tryz.prog W 0 (fun _=>true) true Tryz.f7.params.toList args.toList ds p:=hA0
 rw [Tryz.params7] at hA hval;obtain ⟨v0,vs0,d0,ds0,p0,q0,hargs,rfl,rfl,h0,r0⟩:=trodAll_cons hA;obtain ⟨v1,vs1,d1,ds1,p1,q1,rfl,rfl,rfl,h1,r1⟩:=trodAll_cons r0;obtain ⟨v2,vs2,d2,ds2,p2,q2,rfl,rfl,rfl,h2,r2⟩:=trodAll_cons r1;obtain ⟨v3,vs3,d3,ds3,p3,q3,rfl,rfl,rfl,h3,r3⟩:=trodAll_cons r2;obtain ⟨rfl,rfl,rfl⟩:=trodAll_nil r3;obtain rfl:args= #[v0,v1,v2,v3]:=by cases args;simp_all
 obtain ⟨rfl,rfl⟩:=trodVars_none hV;obtain ⟨_,g0,⟨a0,rfl,w0⟩,e0,k0⟩:=bY.argS aPx Tryz.underlying48 (hval 0 48 v0 rfl rfl) h0;obtain rfl:g0=(pvL (fW.enc a0)).getD []:=by rw [e0];rfl
 obtain ⟨_,g1,⟨a1,rfl,w1⟩,e1,k1⟩:=bY.argS WZ Tryz.underlying64 (hval 1 64 v1 rfl rfl) h1;obtain rfl:g1=(pvL (RT.sv [.i .i64,.i .i64,.i .i64] a1)).getD []:=by rw [e1];rfl
 obtain ⟨_,g2,⟨a2,rfl,w2⟩,e2,k2⟩:=bY.argS WZ Tryz.underlying64 (hval 2 64 v2 rfl rfl) h2;obtain rfl:g2=(pvL (RT.sv [.i .i64,.i .i64,.i .i64] a2)).getD []:=by rw [e2];rfl
 obtain ⟨a3,w3,k3⟩:=bY.argI Tryz.underlying3 (hval 3 3 v3 rfl rfl) h3;obtain ⟨n,s,z,hrun⟩:=aJ.runA aRI aKg (a:=(a0,a1,a2,a3)) (D4 a0 a1 a2 a3 (aCE.of w0.clock.now w0.clock.agenda.heap)) (ps:=[.agg ((pvL (fW.enc a0)).getD []),.agg ((pvL (RT.sv [.i .i64,.i .i64,.i .i64] a1)).getD []),.agg ((pvL (RT.sv [.i .i64,.i .i64,.i .i64] a2)).getD []),.int .i64 a3]) rfl rfl
 refine (ZY (P:=Tryz.prog) (prims:=fun _=>true) (TT.tabOK XW) (TT.primsOK XW) nH hrun (us:=[v0,v1,v2,v3]) (w:=W) (.cons _ _ _ _ k0 (.cons _ _ _ _ k1 (.cons _ _ _ _ k2 (.cons _ _ _ _ k3 (.nil)))))).mono fun e W' ⟨he,hb⟩=>?_
 subst he;exact ⟨_,rfl,aA2 (P:=Tryz.prog) (bt:=4) Qk1 rfl rfl (by kernel_rfl) (by
  rw [Tryz.params7];intro t ht;simp only [List.mem_cons,List.not_mem_nil,or_false] at ht;rcases ht with rfl|rfl|rfl|rfl
  · exact aRR
  · exact aKp
  · exact aKp
  · exact aTa) hW' rfl hb⟩
theorem eeditTwo_holds:Rows.EeditTwoSaid:=
 OpenClaim.holds_of_wide 7 Tryz.f7 rfl rfl rfl rfl rfl rfl rfl ⟨rfl,rfl,rfl,rfl,rfl⟩ rfl rfl rfl rfl rfl (by kernel_rfl) Tryz.func7 aJS
  (of_decide_eq_true (by kernel_rfl)) (by unfold Func.isWrapper;first|(rw [if_pos (by decide+kernel)];kernel_rfl)|(rw [if_neg (by decide+kernel)];exact ⟨rfl,rfl⟩))
  (fun os started H enc _=>aJT os started H enc)
end Go.Proofs.YthljmpcakagceaaGreat
