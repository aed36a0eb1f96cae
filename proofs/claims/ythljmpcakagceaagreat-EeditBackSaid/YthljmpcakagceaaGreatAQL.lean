/- The law EeditBack returns true: its plain function gives true whatever comes in. -/
import Derived.Test.YthljmpcakagceaaGreatRows
import Derived.Test.YthljmpcakagceaaGreatAQS2
import Derived.Test.YthljmpcakagceaaGreatAQM4
import Derived.Test.YthljmpcakagceaaGreatAVm3
namespace Go.Proofs.YthljmpcakagceaaGreat
open Go.ChangeShapes Go.WideShapes Go.ChangeAt Go.RowKit Go.Vm
theorem ZU:cC Tryz.prog 2 (gT [.i .i64]):=cC.int Tryz.underlying2
theorem aDa:cC Tryz.prog 26 (gT [.i .i64,.i .i64]):=(cC.struct (Ks:=[(gT [.i .i64]),(gT [.i .i64])]) Tryz.underlying26 (aZ.cons (by kernel_rfl) ZU (aZ.cons (by kernel_rfl) ZU (aZ.nil))) (by kernel_rfl)).mono (fun vs h=>oM (rs:=[[.i .i64],[.i .i64]]) h)
theorem yJ:cC Tryz.prog 3 (gT [.i .i64]):=cC.int Tryz.underlying3
theorem aDb:cC Tryz.prog 64 (gT [.i .i64,.i .i64,.i .i64]):=(cC.struct (Ks:=[(gT [.i .i64]),(gT [.i .i64]),(gT [.i .i64])]) Tryz.underlying64 (aZ.cons (by kernel_rfl) yJ (aZ.cons (by kernel_rfl) ZU (aZ.cons (by kernel_rfl) ZU (aZ.nil)))) (by kernel_rfl)).mono (fun vs h=>oM (rs:=[[.i .i64],[.i .i64],[.i .i64]]) h)
theorem aQj:cC Tryz.prog 22 (TD [.i .i64,.i .i64,.i .i64]):=cC.slice (r:=[.i .i64,.i .i64,.i .i64]) Tryz.underlying22 aDb (by kernel_rfl) (by decide)
structure Field.WF (c:Field):Prop where
 points: ∀a∈c.points,RT.wf [.i .i64,.i .i64,.i .i64] a
def ZV:List SV->Prop:=fun vs=> ∃c:Field,vs=bS.enc c/\c.WF
theorem aQk:cC Tryz.prog 24 ZV:=(cC.struct (Ks:=[(TD [.i .i64,.i .i64,.i .i64])]) Tryz.underlying24 (aZ.cons (by kernel_rfl) aQj (aZ.nil)) (by kernel_rfl)).mono (by
 rintro vs ⟨_,b0,rfl,⟨c0,rfl,w0⟩,rfl⟩;refine ⟨⟨c0⟩,?_,⟨w0⟩⟩;simp only [List.append_nil]
 rfl)
theorem aQl:cC Tryz.prog 66 (gT [.i .i64,.i .i64]):=(cC.struct (Ks:=[(gT [.i .i64]),(gT [.i .i64])]) Tryz.underlying66 (aZ.cons (by kernel_rfl) yJ (aZ.cons (by kernel_rfl) yJ (aZ.nil))) (by kernel_rfl)).mono (fun vs h=>oM (rs:=[[.i .i64],[.i .i64]]) h)
theorem aKx:cC Tryz.prog 197 (gT [.i .i64,.i .i64,.i .i64]):=(cC.struct (Ks:=[(gT [.i .i64]),(gT [.i .i64,.i .i64])]) Tryz.underlying197 (aZ.cons (by kernel_rfl) yJ (aZ.cons (by kernel_rfl) aQl (aZ.nil))) (by kernel_rfl)).mono (fun vs h=>oM (rs:=[[.i .i64],[.i .i64,.i .i64]]) h)
theorem aQm:cC Tryz.prog 31 (TD [.i .i64,.i .i64,.i .i64]):=cC.slice (r:=[.i .i64,.i .i64,.i .i64]) Tryz.underlying31 aKx (by kernel_rfl) (by decide)
structure aV.WF (c:aV):Prop where
 next_:RT.wf [.i .i64] c.next_
 list: ∀a∈c.list,RT.wf [.i .i64,.i .i64,.i .i64] a
def ZW:List SV->Prop:=fun vs=> ∃c:aV,vs=gY.enc c/\c.WF
theorem aQn:cC Tryz.prog 33 ZW:=(cC.struct (Ks:=[(gT [.i .i64]),(TD [.i .i64,.i .i64,.i .i64])]) Tryz.underlying33 (aZ.cons (by kernel_rfl) yJ (aZ.cons (by kernel_rfl) aQm (aZ.nil))) (by kernel_rfl)).mono (by
 rintro vs ⟨_,b0,rfl,⟨c0,rfl,w0⟩,_,b1,rfl,⟨c1,rfl,w1⟩,rfl⟩;refine ⟨⟨c0,c1⟩,?_,⟨w0,w1⟩⟩;simp only [List.append_nil]
 rfl)
theorem XP:cC Tryz.prog 34 (TD [.i .i64]):=cC.slice (r:=[.i .i64]) Tryz.underlying34 yJ (by kernel_rfl) (by decide)
theorem aSX:cC Tryz.prog 4 (gT [.b]):=cC.bool Tryz.underlying4
theorem aQo:cC Tryz.prog 35 (TD [.b]):=cC.slice (r:=[.b]) Tryz.underlying35 aSX (by kernel_rfl) (by decide)
structure aR.WF (c:aR):Prop where
 uses: ∀a∈c.uses,RT.wf [.i .i64] a
 used: ∀a∈c.used,RT.wf [.b] a
 free: ∀a∈c.free,RT.wf [.i .i64] a
def ZX:List SV->Prop:=fun vs=> ∃c:aR,vs=gB.enc c/\c.WF
theorem aQp:cC Tryz.prog 37 ZX:=(cC.struct (Ks:=[(TD [.i .i64]),(TD [.b]),(TD [.i .i64])]) Tryz.underlying37 (aZ.cons (by kernel_rfl) XP (aZ.cons (by kernel_rfl) aQo (aZ.cons (by kernel_rfl) XP (aZ.nil)))) (by kernel_rfl)).mono (by
 rintro vs ⟨_,b0,rfl,⟨c0,rfl,w0⟩,_,b1,rfl,⟨c1,rfl,w1⟩,_,b2,rfl,⟨c2,rfl,w2⟩,rfl⟩;refine ⟨⟨c0,c1,c2⟩,?_,⟨w0,w1,w2⟩⟩;simp only [List.append_nil]
 rfl)
theorem ZY:cC Tryz.prog 135 (gT [.i .i64,.i .i64]):=(cC.struct (Ks:=[(gT [.i .i64]),(gT [.i .i64])]) Tryz.underlying135 (aZ.cons (by kernel_rfl) yJ (aZ.cons (by kernel_rfl) yJ (aZ.nil))) (by kernel_rfl)).mono (fun vs h=>oM (rs:=[[.i .i64],[.i .i64]]) h)
theorem aKy:cC Tryz.prog 137 (gT [.i .i64,.i .i64,.i .i64,.i .i64,.i .i64]):=(cC.struct (Ks:=[(gT [.i .i64,.i .i64]),(gT [.i .i64]),(gT [.i .i64,.i .i64])]) Tryz.underlying137 (aZ.cons (by kernel_rfl) aDa (aZ.cons (by kernel_rfl) yJ (aZ.cons (by kernel_rfl) ZY (aZ.nil)))) (by kernel_rfl)).mono (fun vs h=>oM (rs:=[[.i .i64,.i .i64],[.i .i64],[.i .i64,.i .i64]]) h)
theorem aQq:cC Tryz.prog 38 (TD [.i .i64,.i .i64,.i .i64,.i .i64,.i .i64]):=cC.slice (r:=[.i .i64,.i .i64,.i .i64,.i .i64,.i .i64]) Tryz.underlying38 aKy (by kernel_rfl) (by decide)
structure aI.WF (c:aI):Prop where
 slots:aR.WF c.slots
 heap: ∀a∈c.heap,RT.wf [.i .i64,.i .i64,.i .i64,.i .i64,.i .i64] a
 where_: ∀a∈c.where_,RT.wf [.i .i64] a
def U8:List SV->Prop:=fun vs=> ∃c:aI,vs=dA.enc c/\c.WF
theorem aQr:cC Tryz.prog 40 U8:=(cC.struct (Ks:=[ZX,(TD [.i .i64,.i .i64,.i .i64,.i .i64,.i .i64]),(TD [.i .i64])]) Tryz.underlying40 (aZ.cons (by kernel_rfl) aQp (aZ.cons (by kernel_rfl) aQq (aZ.cons (by kernel_rfl) XP (aZ.nil)))) (by kernel_rfl)).mono (by
 rintro vs ⟨_,b0,rfl,⟨c0,rfl,w0⟩,_,b1,rfl,⟨c1,rfl,w1⟩,_,b2,rfl,⟨c2,rfl,w2⟩,rfl⟩;refine ⟨⟨c0,c1,c2⟩,?_,⟨w0,w1,w2⟩⟩;simp only [List.append_nil]
 rfl)
theorem aKz:cC Tryz.prog 201 (gT [.i .i64,.i .i64,.i .i64]):=(cC.struct (Ks:=[(gT [.i .i64]),(gT [.i .i64,.i .i64])]) Tryz.underlying201 (aZ.cons (by kernel_rfl) yJ (aZ.cons (by kernel_rfl) ZY (aZ.nil))) (by kernel_rfl)).mono (fun vs h=>oM (rs:=[[.i .i64],[.i .i64,.i .i64]]) h)
theorem aQs:cC Tryz.prog 41 (TD [.i .i64,.i .i64,.i .i64]):=cC.slice (r:=[.i .i64,.i .i64,.i .i64]) Tryz.underlying41 aKz (by kernel_rfl) (by decide)
structure aQ.WF (c:aQ):Prop where
 now:RT.wf [.i .i64,.i .i64] c.now
 field:Field.WF c.field
 certs:aV.WF c.certs
 agenda:aI.WF c.agenda
 due: ∀a∈c.due,RT.wf [.i .i64,.i .i64,.i .i64] a
def ZZ:List SV->Prop:=fun vs=> ∃c:aQ,vs=bU.enc c/\c.WF
theorem aQt:cC Tryz.prog 43 ZZ:=(cC.struct (Ks:=[(gT [.i .i64,.i .i64]),ZV,ZW,U8,(TD [.i .i64,.i .i64,.i .i64])]) Tryz.underlying43 (aZ.cons (by kernel_rfl) aDa (aZ.cons (by kernel_rfl) aQk (aZ.cons (by kernel_rfl) aQn (aZ.cons (by kernel_rfl) aQr (aZ.cons (by kernel_rfl) aQs (aZ.nil)))))) (by kernel_rfl)).mono (by
 rintro vs ⟨_,b0,rfl,⟨c0,rfl,w0⟩,_,b1,rfl,⟨c1,rfl,w1⟩,_,b2,rfl,⟨c2,rfl,w2⟩,_,b3,rfl,⟨c3,rfl,w3⟩,_,b4,rfl,⟨c4,rfl,w4⟩,rfl⟩;refine ⟨⟨c0,c1,c2,c3,c4⟩,?_,⟨w0,w1,w2,w3,w4⟩⟩;simp only [List.append_nil]
 rfl)
theorem aQu:cC Tryz.prog 62 (gT [.i .i64,.i .i64,.i .i64]):=(cC.struct (Ks:=[(gT [.i .i64]),(gT [.i .i64]),(gT [.i .i64])]) Tryz.underlying62 (aZ.cons (by kernel_rfl) yJ (aZ.cons (by kernel_rfl) yJ (aZ.cons (by kernel_rfl) yJ (aZ.nil)))) (by kernel_rfl)).mono (fun vs h=>oM (rs:=[[.i .i64],[.i .i64],[.i .i64]]) h)
theorem aQv:cC Tryz.prog 44 (TD [.i .i64,.i .i64,.i .i64]):=cC.slice (r:=[.i .i64,.i .i64,.i .i64]) Tryz.underlying44 aQu (by kernel_rfl) (by decide)
structure nK.WF (c:nK):Prop where
 root:RT.wf [.i .i64] c.root
 nodes: ∀a∈c.nodes,RT.wf [.i .i64,.i .i64,.i .i64] a
def aDc:List SV->Prop:=fun vs=> ∃c:nK,vs=wM.enc c/\c.WF
theorem aQw:cC Tryz.prog 46 aDc:=(cC.struct (Ks:=[(gT [.i .i64]),(TD [.i .i64,.i .i64,.i .i64])]) Tryz.underlying46 (aZ.cons (by kernel_rfl) yJ (aZ.cons (by kernel_rfl) aQv (aZ.nil))) (by kernel_rfl)).mono (by
 rintro vs ⟨_,b0,rfl,⟨c0,rfl,w0⟩,_,b1,rfl,⟨c1,rfl,w1⟩,rfl⟩;refine ⟨⟨c0,c1⟩,?_,⟨w0,w1⟩⟩;simp only [List.append_nil]
 rfl)
structure bH.WF (c:bH):Prop where
 clock:aQ.WF c.clock
 tree:nK.WF c.tree
def aDd:List SV->Prop:=fun vs=> ∃c:bH,vs=dX.enc c/\c.WF
theorem aQx:cC Tryz.prog 48 aDd:=(cC.struct (Ks:=[ZZ,aDc]) Tryz.underlying48 (aZ.cons (by kernel_rfl) aQt (aZ.cons (by kernel_rfl) aQw (aZ.nil))) (by kernel_rfl)).mono (by
 rintro vs ⟨_,b0,rfl,⟨c0,rfl,w0⟩,_,b1,rfl,⟨c1,rfl,w1⟩,rfl⟩;refine ⟨⟨c0,c1⟩,?_,⟨w0,w1⟩⟩;simp only [List.append_nil]
 rfl)
theorem aSY:Tryz.prog.readableRec 48=true/\48<Tryz.prog.types.size:=⟨by kernel_rfl,of_decide_eq_true (by kernel_rfl)⟩
theorem aSZ:Tryz.prog.readableRec 64=true/\64<Tryz.prog.types.size:=⟨by kernel_rfl,of_decide_eq_true (by kernel_rfl)⟩
theorem aUm:Tryz.prog.readableRec 3=true/\3<Tryz.prog.types.size:=⟨by kernel_rfl,of_decide_eq_true (by kernel_rfl)⟩
theorem aUn:ownKnob Tryz.prog.godebug=none:=by kernel_rfl
theorem pS {a b:Bool} (h:a=true) (k:b=true):(a&&b)=true:=by rw [h,k];rfl
theorem Qk0:Rows.eeditBackRow.wf (OpenSpec.ofChange Rows.eeditBackSpec)=true:=by decide+kernel
theorem Qk1:laidOutB Tryz.prog=true:=by decide+kernel
theorem Qk2:mapsRowed Tryz.prog=true:=by decide+kernel
theorem Qk3:Tryz.f8.params.all (Tryz.prog.readableRec ·)=true:=by decide+kernel
theorem Qk4:namedTie Tryz.prog Rows.eeditBackRow.named Rows.eeditBackSpec.vars=true:=by decide+kernel
theorem Qk5:(Rows.eeditBackRow.stops==[])=true:=by decide+kernel
theorem Qk6:(Tryz.prog.stops==[])=true:=by decide+kernel
theorem Qk7:(Rows.eeditBackRow.knobs==[])=true:=by decide+kernel
theorem Qk8:(Tryz.prog.stopKnobs==[])=true:=by decide+kernel
theorem Qk9:(Rows.eeditBackRow.inPlace==Tryz.prog.inPlace 8)=true:=by decide+kernel
theorem aUo:(Rows.eeditBackRow.unfollowed==Tryz.prog.unfollowed 8)=true:=by decide+kernel
theorem aUp:(Rows.eeditBackRow.recurses==Tryz.prog.recurses 8)=true:=by decide+kernel
theorem aUq:(Rows.eeditBackRow.named==Tryz.prog.varsNamed 8)=true:=by decide+kernel
theorem aUr:(Rows.eeditBackRow.maps==(Tryz.f8.params.toList++Rows.eeditBackSpec.plain.varTypes Tryz.prog).any (Tryz.prog.mapsRec ·))=true:=by decide+kernel
theorem aUs:(Rows.eeditBackRow.ifaces==(Tryz.f8.params.toList++Rows.eeditBackSpec.plain.varTypes Tryz.prog).any (Tryz.prog.ifacesRec ·))=true:=by decide+kernel
theorem aUt:(Rows.eeditBackRow.mapsOut==Tryz.prog.mapsAmong Tryz.f8.resultTypes.toList)=true:=by decide+kernel
theorem aUu:(Rows.eeditBackRow.loops==(Tryz.f8.params.toList++Rows.eeditBackSpec.plain.varTypes Tryz.prog).any (Tryz.prog.loopsFrom ·))=true:=by decide+kernel
theorem aUv:(Rows.eeditBackRow.wideKeys==(Tryz.f8.params.toList++Rows.eeditBackSpec.plain.varTypes Tryz.prog++Tryz.f8.resultTypes.toList).any (Tryz.prog.wideKeysFrom ·))=true:=by decide+kernel
theorem aUw:Rows.eeditBackSpec.vars.all (Tryz.prog.varReadable ·)=true:=by decide+kernel
theorem aUx:Tryz.f8.resultTypes.all (fun t=>Tryz.prog.readableRec t&&decide (t<Tryz.prog.types.size))=true:=by decide+kernel
theorem aUy:(Rows.eeditBackRow.ifacesOut==Tryz.f8.resultTypes.toList.any (Tryz.prog.ifacesRec ·))=true:=by decide+kernel
theorem aUz:(Rows.eeditBackRow.loopsOut==Tryz.f8.resultTypes.toList.any (Tryz.prog.loopsFrom ·))=true:=by decide+kernel
theorem aUA:(Rows.eeditBackRow.plainKeys==Tryz.prog.plainKeys)=true:=by decide+kernel
theorem aUB:Rows.eeditBackRow.shortTexts.isNone=true:=by decide+kernel
theorem aUC:Tryz.prog.stopsHeard=true:=by decide+kernel
theorem aUD:Tryz.prog.mayEnter=true:=by decide+kernel
theorem aUE:(Rows.eeditBackRow.lifted==Tryz.prog.liftsFinal)=true:=by decide+kernel
theorem aUF:(Tryz.prog.make==some Rows.eeditBackRow.make)=true:=by decide+kernel
theorem aUG:(Rows.eeditBackRow.kinds==(if Rows.eeditBackRow.domain.isEmpty then [] else Tryz.f8.params.toList.map fun t=>match Tryz.prog.underlying t with|some (.int k)=>some k|_=>none))=true:=by decide+kernel
theorem aUH:(Rows.eeditBackRow.pinned==Rows.eeditBackRow.pinnedBy)=true:=by decide+kernel
theorem aUI:(Rows.eeditBackRow.veiled==(Tryz.f8.params.toList++Rows.eeditBackSpec.plain.varTypes Tryz.prog++Tryz.f8.resultTypes.toList).any (Tryz.prog.veiledRec ·))=true:=by decide+kernel
theorem aUJ:Rows.eeditBackRow.veiledFits Tryz.prog Tryz.f8.params.toList (Tryz.f8.params.toList++Rows.eeditBackSpec.plain.varTypes Tryz.prog++Tryz.f8.resultTypes.toList)=true:=by decide+kernel
set_option maxRecDepth 100000 in
theorem aKA:joinedFacts Tryz.prog 8 Tryz.f8 Rows.eeditBackSpec Rows.eeditBackRow=true:=(pS (pS (pS (pS (pS (pS (pS (pS (pS (pS (pS (pS (pS (pS (pS (pS (pS (pS (pS (pS (pS (pS (pS (pS (pS (pS (pS (pS (pS (pS (pS Qk0 Qk1) Qk2) Qk3) Qk4) Qk5) Qk6) Qk7) Qk8) Qk9) aUo) aUp) aUq) aUr) aUs) aUt) aUu) aUv) aUw) aUx) aUy) aUz) aUA) aUB) aUC) aUD) aUE) aUF) aUG) aUH) aUI) aUJ)
set_option maxRecDepth 100000 in
theorem aKB (os:Os) (started:os.Started) (H:Type) (enc:TypeId×Value->H):
 ReturnsInHanded {} Tryz.checked os 8 .any (Rows.eeditBackSpec.pre6 enc Tryz.prog Tryz.f8 Rows.eeditBackRow.domain false) (Rows.eeditBackSpec.post enc Tryz.prog Tryz.f8 false true false false):=by
 refine returnsInHanded_of_change (C:=Tryz.checked) aUn started (by kernel_rfl) Tryz.func8
  (ChangeSpec.witness6 (enc:=enc) (C:=Tryz.checked) false ⟨#[],#[.agg #[.int .i64 0,.int .i64 0,.slice none 0 0,.int .i64 0,.slice none 0 0,.slice none 0 0,.slice none 0 0,.slice none 0 0,.slice none 0 0,.slice none 0 0,.slice none 0 0,.int .i64 0,.slice none 0 0],.agg #[.int .i64 0,.int .i64 0,.int .i64 0],.int .i64 0],[]⟩ 16 (by kernel_rfl) (by kernel_rfl) (by kernel_rfl) (by kernel_rfl)) ?_
 intro W base args ds gs before hval0 hW hcnd _;have hval: ∀(j:Nat) t v,Tryz.f8.params[j]? =some t->args[j]? =some v->Value.okWide Tryz.prog W .any base t v:=hval0;have hW':=hW;obtain ⟨p,q,hA0,hV,rfl,hfz,hnd⟩:=hW;have hA:DataW.TrodAll enc Tryz.prog W 0 (fun _=>true) true Tryz.f8.params.toList args.toList ds p:=hA0
 rw [Tryz.params8] at hA hval;obtain ⟨v0,vs0,d0,ds0,p0,q0,hargs,rfl,rfl,h0,r0⟩:=trodAll_cons hA;obtain ⟨v1,vs1,d1,ds1,p1,q1,rfl,rfl,rfl,h1,r1⟩:=trodAll_cons r0;obtain ⟨v2,vs2,d2,ds2,p2,q2,rfl,rfl,rfl,h2,r2⟩:=trodAll_cons r1;obtain ⟨rfl,rfl,rfl⟩:=trodAll_nil r2;obtain rfl:args= #[v0,v1,v2]:=by cases args;simp_all
 obtain ⟨rfl,rfl⟩:=trodVars_none hV;obtain ⟨_,g0,⟨a0,rfl,w0⟩,e0,k0⟩:=cC.argS aQx Tryz.underlying48 (hval 0 48 v0 rfl rfl) h0;obtain rfl:g0=(pvL (dX.enc a0)).getD []:=by rw [e0];rfl
 obtain ⟨_,g1,⟨a1,rfl,w1⟩,e1,k1⟩:=cC.argS aDb Tryz.underlying64 (hval 1 64 v1 rfl rfl) h1;obtain rfl:g1=(pvL (RT.sv [.i .i64,.i .i64,.i .i64] a1)).getD []:=by rw [e1];rfl
 obtain ⟨a2,w2,k2⟩:=cC.argI Tryz.underlying3 (hval 2 3 v2 rfl rfl) h2;obtain ⟨n,s,z,hrun⟩:=aK.runA aSP aKZ (a:=(a0,a1,a2)) (DR a0 a1 a2 (aC3.of w0.clock.now w0.clock.agenda.heap)) (ps:=[.agg ((pvL (dX.enc a0)).getD []),.agg ((pvL (RT.sv [.i .i64,.i .i64,.i .i64] a1)).getD []),.int .i64 a2]) rfl rfl
 refine (aAl (P:=Tryz.prog) (prims:=fun _=>true) (TT.tabOK YL) (TT.primsOK YL) nR hrun (us:=[v0,v1,v2]) (w:=W) (.cons _ _ _ _ k0 (.cons _ _ _ _ k1 (.cons _ _ _ _ k2 (.nil))))).mono fun e W' ⟨he,hb⟩=>?_
 subst he;exact ⟨_,rfl,aBr (P:=Tryz.prog) (bt:=4) Qk1 rfl rfl (by kernel_rfl) (by
  rw [Tryz.params8];intro t ht;simp only [List.mem_cons,List.not_mem_nil,or_false] at ht;rcases ht with rfl|rfl|rfl
  · exact aSY
  · exact aSZ
  · exact aUm) hW' rfl hb⟩
theorem eeditBack_holds:Rows.EeditBackSaid:=
 OpenClaim.holds_of_wide 8 Tryz.f8 rfl rfl rfl rfl rfl rfl rfl ⟨rfl,rfl,rfl,rfl,rfl⟩ rfl rfl rfl rfl rfl (by kernel_rfl) Tryz.func8 aKA
  (of_decide_eq_true (by kernel_rfl)) (by unfold Func.isWrapper;first|(rw [if_pos (by decide+kernel)];kernel_rfl)|(rw [if_neg (by decide+kernel)];exact ⟨rfl,rfl⟩))
  (fun os started H enc _=>aKB os started H enc)
end Go.Proofs.YthljmpcakagceaaGreat
