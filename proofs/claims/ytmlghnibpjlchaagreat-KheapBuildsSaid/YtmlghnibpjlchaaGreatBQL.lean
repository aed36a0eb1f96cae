/- The law KheapBuilds returns true: its plain function gives true whatever comes in. -/
import Derived.Test.YtmlghnibpjlchaaGreatRows
import Derived.Test.YtmlghnibpjlchaaGreatBQS2
import Derived.Test.YtmlghnibpjlchaaGreatBQM3
import Derived.Test.YtmlghnibpjlchaaGreatBVm3
namespace Go.Proofs.YtmlghnibpjlchaaGreat
open Go.ChangeShapes Go.WideShapes Go.ChangeAt Go.RowKit Go.Vm
theorem BU:bU Tryz.prog 3 (fU [.i .i64]):=bU.int Tryz.underlying3
theorem UE:bU Tryz.prog 2 (fU [.i .i64]):=bU.int Tryz.underlying2
theorem aLv:bU Tryz.prog 81 (fU [.i .i64,.i .i64,.i .i64]):=(bU.struct (Ks:=[(fU [.i .i64]),(fU [.i .i64]),(fU [.i .i64])]) Tryz.underlying81 (aX.cons (by kernel_rfl) BU (aX.cons (by kernel_rfl) UE (aX.cons (by kernel_rfl) UE (aX.nil)))) (by kernel_rfl)).mono (fun vs h=>mJ (rs:=[[.i .i64],[.i .i64],[.i .i64]]) h)
theorem aLw:bU Tryz.prog 24 (P6 [.i .i64,.i .i64,.i .i64]):=bU.slice (r:=[.i .i64,.i .i64,.i .i64]) Tryz.underlying24 aLv (by kernel_rfl) (by decide)
structure Field.WF (c:Field):Prop where
 points: ∀a∈c.points,RT.wf [.i .i64,.i .i64,.i .i64] a
def UF:List SV->Prop:=fun vs=> ∃c:Field,vs=cF.enc c/\c.WF
theorem ZC:bU Tryz.prog 26 UF:=(bU.struct (Ks:=[(P6 [.i .i64,.i .i64,.i .i64])]) Tryz.underlying26 (aX.cons (by kernel_rfl) aLw (aX.nil)) (by kernel_rfl)).mono (by
 rintro vs ⟨_,b0,rfl,⟨c0,rfl,w0⟩,rfl⟩;refine ⟨⟨c0⟩,?_,⟨w0⟩⟩;simp only [List.append_nil]
 rfl)
theorem SF:bU Tryz.prog 23 (fU [.i .i64,.i .i64]):=(bU.struct (Ks:=[(fU [.i .i64]),(fU [.i .i64])]) Tryz.underlying23 (aX.cons (by kernel_rfl) UE (aX.cons (by kernel_rfl) UE (aX.nil))) (by kernel_rfl)).mono (fun vs h=>mJ (rs:=[[.i .i64],[.i .i64]]) h)
theorem aLx:bU Tryz.prog 90 (fU [.i .i64,.i .i64]):=(bU.struct (Ks:=[(fU [.i .i64]),(fU [.i .i64])]) Tryz.underlying90 (aX.cons (by kernel_rfl) BU (aX.cons (by kernel_rfl) BU (aX.nil))) (by kernel_rfl)).mono (fun vs h=>mJ (rs:=[[.i .i64],[.i .i64]]) h)
theorem aF0:bU Tryz.prog 121 (fU [.i .i64,.i .i64,.i .i64]):=(bU.struct (Ks:=[(fU [.i .i64]),(fU [.i .i64,.i .i64])]) Tryz.underlying121 (aX.cons (by kernel_rfl) BU (aX.cons (by kernel_rfl) aLx (aX.nil))) (by kernel_rfl)).mono (fun vs h=>mJ (rs:=[[.i .i64],[.i .i64,.i .i64]]) h)
theorem aLy:bU Tryz.prog 27 (P6 [.i .i64,.i .i64,.i .i64]):=bU.slice (r:=[.i .i64,.i .i64,.i .i64]) Tryz.underlying27 aF0 (by kernel_rfl) (by decide)
structure aW.WF (c:aW):Prop where
 next_:RT.wf [.i .i64] c.next_
 list: ∀a∈c.list,RT.wf [.i .i64,.i .i64,.i .i64] a
def UG:List SV->Prop:=fun vs=> ∃c:aW,vs=eV.enc c/\c.WF
theorem aLz:bU Tryz.prog 29 UG:=(bU.struct (Ks:=[(fU [.i .i64]),(P6 [.i .i64,.i .i64,.i .i64])]) Tryz.underlying29 (aX.cons (by kernel_rfl) BU (aX.cons (by kernel_rfl) aLy (aX.nil))) (by kernel_rfl)).mono (by
 rintro vs ⟨_,b0,rfl,⟨c0,rfl,w0⟩,_,b1,rfl,⟨c1,rfl,w1⟩,rfl⟩;refine ⟨⟨c0,c1⟩,?_,⟨w0,w1⟩⟩;simp only [List.append_nil]
 rfl)
theorem M3:bU Tryz.prog 30 (P6 [.i .i64]):=bU.slice (r:=[.i .i64]) Tryz.underlying30 BU (by kernel_rfl) (by decide)
theorem aNl:bU Tryz.prog 4 (fU [.b]):=bU.bool Tryz.underlying4
theorem aLA:bU Tryz.prog 31 (P6 [.b]):=bU.slice (r:=[.b]) Tryz.underlying31 aNl (by kernel_rfl) (by decide)
structure aR.WF (c:aR):Prop where
 uses: ∀a∈c.uses,RT.wf [.i .i64] a
 used: ∀a∈c.used,RT.wf [.b] a
 free: ∀a∈c.free,RT.wf [.i .i64] a
def UH:List SV->Prop:=fun vs=> ∃c:aR,vs=dW.enc c/\c.WF
theorem aLB:bU Tryz.prog 33 UH:=(bU.struct (Ks:=[(P6 [.i .i64]),(P6 [.b]),(P6 [.i .i64])]) Tryz.underlying33 (aX.cons (by kernel_rfl) M3 (aX.cons (by kernel_rfl) aLA (aX.cons (by kernel_rfl) M3 (aX.nil)))) (by kernel_rfl)).mono (by
 rintro vs ⟨_,b0,rfl,⟨c0,rfl,w0⟩,_,b1,rfl,⟨c1,rfl,w1⟩,_,b2,rfl,⟨c2,rfl,w2⟩,rfl⟩;refine ⟨⟨c0,c1,c2⟩,?_,⟨w0,w1,w2⟩⟩;simp only [List.append_nil]
 rfl)
theorem ZD:bU Tryz.prog 70 (fU [.i .i64,.i .i64]):=(bU.struct (Ks:=[(fU [.i .i64]),(fU [.i .i64])]) Tryz.underlying70 (aX.cons (by kernel_rfl) BU (aX.cons (by kernel_rfl) BU (aX.nil))) (by kernel_rfl)).mono (fun vs h=>mJ (rs:=[[.i .i64],[.i .i64]]) h)
theorem aLC:bU Tryz.prog 72 (fU [.i .i64,.i .i64,.i .i64,.i .i64,.i .i64]):=(bU.struct (Ks:=[(fU [.i .i64,.i .i64]),(fU [.i .i64]),(fU [.i .i64,.i .i64])]) Tryz.underlying72 (aX.cons (by kernel_rfl) SF (aX.cons (by kernel_rfl) BU (aX.cons (by kernel_rfl) ZD (aX.nil)))) (by kernel_rfl)).mono (fun vs h=>mJ (rs:=[[.i .i64,.i .i64],[.i .i64],[.i .i64,.i .i64]]) h)
theorem aLD:bU Tryz.prog 34 (P6 [.i .i64,.i .i64,.i .i64,.i .i64,.i .i64]):=bU.slice (r:=[.i .i64,.i .i64,.i .i64,.i .i64,.i .i64]) Tryz.underlying34 aLC (by kernel_rfl) (by decide)
structure aJ.WF (c:aJ):Prop where
 slots:aR.WF c.slots
 heap: ∀a∈c.heap,RT.wf [.i .i64,.i .i64,.i .i64,.i .i64,.i .i64] a
 where_: ∀a∈c.where_,RT.wf [.i .i64] a
def P5:List SV->Prop:=fun vs=> ∃c:aJ,vs=bV.enc c/\c.WF
theorem aLE:bU Tryz.prog 36 P5:=(bU.struct (Ks:=[UH,(P6 [.i .i64,.i .i64,.i .i64,.i .i64,.i .i64]),(P6 [.i .i64])]) Tryz.underlying36 (aX.cons (by kernel_rfl) aLB (aX.cons (by kernel_rfl) aLD (aX.cons (by kernel_rfl) M3 (aX.nil)))) (by kernel_rfl)).mono (by
 rintro vs ⟨_,b0,rfl,⟨c0,rfl,w0⟩,_,b1,rfl,⟨c1,rfl,w1⟩,_,b2,rfl,⟨c2,rfl,w2⟩,rfl⟩;refine ⟨⟨c0,c1,c2⟩,?_,⟨w0,w1,w2⟩⟩;simp only [List.append_nil]
 rfl)
theorem aF1:bU Tryz.prog 157 (fU [.i .i64,.i .i64,.i .i64]):=(bU.struct (Ks:=[(fU [.i .i64]),(fU [.i .i64,.i .i64])]) Tryz.underlying157 (aX.cons (by kernel_rfl) BU (aX.cons (by kernel_rfl) ZD (aX.nil))) (by kernel_rfl)).mono (fun vs h=>mJ (rs:=[[.i .i64],[.i .i64,.i .i64]]) h)
theorem aLF:bU Tryz.prog 37 (P6 [.i .i64,.i .i64,.i .i64]):=bU.slice (r:=[.i .i64,.i .i64,.i .i64]) Tryz.underlying37 aF1 (by kernel_rfl) (by decide)
structure aO.WF (c:aO):Prop where
 now:RT.wf [.i .i64,.i .i64] c.now
 field:Field.WF c.field
 certs:aW.WF c.certs
 agenda:aJ.WF c.agenda
 due: ∀a∈c.due,RT.wf [.i .i64,.i .i64,.i .i64] a
def UI:List SV->Prop:=fun vs=> ∃c:aO,vs=bR.enc c/\c.WF
theorem aLG:bU Tryz.prog 39 UI:=(bU.struct (Ks:=[(fU [.i .i64,.i .i64]),UF,UG,P5,(P6 [.i .i64,.i .i64,.i .i64])]) Tryz.underlying39 (aX.cons (by kernel_rfl) SF (aX.cons (by kernel_rfl) ZC (aX.cons (by kernel_rfl) aLz (aX.cons (by kernel_rfl) aLE (aX.cons (by kernel_rfl) aLF (aX.nil)))))) (by kernel_rfl)).mono (by
 rintro vs ⟨_,b0,rfl,⟨c0,rfl,w0⟩,_,b1,rfl,⟨c1,rfl,w1⟩,_,b2,rfl,⟨c2,rfl,w2⟩,_,b3,rfl,⟨c3,rfl,w3⟩,_,b4,rfl,⟨c4,rfl,w4⟩,rfl⟩;refine ⟨⟨c0,c1,c2,c3,c4⟩,?_,⟨w0,w1,w2,w3,w4⟩⟩;simp only [List.append_nil]
 rfl)
structure dY.WF (c:dY):Prop where
 clock:aO.WF c.clock
 heap: ∀a∈c.heap,RT.wf [.i .i64] a
def aF2:List SV->Prop:=fun vs=> ∃c:dY,vs=gP.enc c/\c.WF
theorem aLH:bU Tryz.prog 41 aF2:=(bU.struct (Ks:=[UI,(P6 [.i .i64])]) Tryz.underlying41 (aX.cons (by kernel_rfl) aLG (aX.cons (by kernel_rfl) M3 (aX.nil))) (by kernel_rfl)).mono (by
 rintro vs ⟨_,b0,rfl,⟨c0,rfl,w0⟩,_,b1,rfl,⟨c1,rfl,w1⟩,rfl⟩;refine ⟨⟨c0,c1⟩,?_,⟨w0,w1⟩⟩;simp only [List.append_nil]
 rfl)
theorem aNm:Tryz.prog.readableRec 26=true/\26<Tryz.prog.types.size:=⟨by kernel_rfl,of_decide_eq_true (by kernel_rfl)⟩
theorem aNn:Tryz.prog.readableRec 23=true/\23<Tryz.prog.types.size:=⟨by kernel_rfl,of_decide_eq_true (by kernel_rfl)⟩
theorem aNo:Tryz.prog.readableRec 41=true/\41<Tryz.prog.types.size:=⟨by kernel_rfl,of_decide_eq_true (by kernel_rfl)⟩
theorem aOK:ownKnob Tryz.prog.godebug=none:=by kernel_rfl
theorem aNp:laidOutB Tryz.prog=true:=by kernel_rfl
set_option maxRecDepth 100000 in
theorem aF3 (os:Os) (started:os.Started) (H:Type) (enc:TypeId×Value->H):
 ReturnsInHanded {} Tryz.checked os 5 .any (Rows.kheapBuildsSpec.pre6 enc Tryz.prog Tryz.f5 Rows.kheapBuildsRow.domain false) (Rows.kheapBuildsSpec.post enc Tryz.prog Tryz.f5 false true false false):=by
 refine returnsInHanded_of_change (C:=Tryz.checked) aOK started (by kernel_rfl) Tryz.func5
  (ChangeSpec.witness6 (enc:=enc) (C:=Tryz.checked) false ⟨#[],#[.agg #[.slice none 0 0],.agg #[.int .i64 0,.int .i64 0],.agg #[.int .i64 0,.int .i64 0,.slice none 0 0,.int .i64 0,.slice none 0 0,.slice none 0 0,.slice none 0 0,.slice none 0 0,.slice none 0 0,.slice none 0 0,.slice none 0 0,.slice none 0 0]],[]⟩ 16 (by kernel_rfl) (by kernel_rfl) (by kernel_rfl) (by kernel_rfl)) ?_
 intro W base args ds gs before hval0 hW hcnd _;have hval: ∀(j:Nat) t v,Tryz.f5.params[j]? =some t->args[j]? =some v->Value.okWide Tryz.prog W .any base t v:=hval0;have hW':=hW;obtain ⟨p,q,hA0,hV,rfl,hfz,hnd⟩:=hW;have hA:DataW.TrodAll enc Tryz.prog W 0 (fun _=>true) true Tryz.f5.params.toList args.toList ds p:=hA0
 rw [Tryz.params5] at hA hval;obtain ⟨v0,vs0,d0,ds0,p0,q0,hargs,rfl,rfl,h0,r0⟩:=trodAll_cons hA;obtain ⟨v1,vs1,d1,ds1,p1,q1,rfl,rfl,rfl,h1,r1⟩:=trodAll_cons r0;obtain ⟨v2,vs2,d2,ds2,p2,q2,rfl,rfl,rfl,h2,r2⟩:=trodAll_cons r1;obtain ⟨rfl,rfl,rfl⟩:=trodAll_nil r2;obtain rfl:args= #[v0,v1,v2]:=by cases args;simp_all
 obtain ⟨rfl,rfl⟩:=trodVars_none hV;obtain ⟨_,g0,⟨a0,rfl,w0⟩,e0,k0⟩:=bU.argS ZC Tryz.underlying26 (hval 0 26 v0 rfl rfl) h0;obtain rfl:g0=(pvL (cF.enc a0)).getD []:=by rw [e0];rfl
 obtain ⟨_,g1,⟨a1,rfl,w1⟩,e1,k1⟩:=bU.argS SF Tryz.underlying23 (hval 1 23 v1 rfl rfl) h1;obtain rfl:g1=(pvL (RT.sv [.i .i64,.i .i64] a1)).getD []:=by rw [e1];rfl
 obtain ⟨_,g2,⟨a2,rfl,w2⟩,e2,k2⟩:=bU.argS aLH Tryz.underlying41 (hval 2 41 v2 rfl rfl) h2;obtain rfl:g2=(pvL (gP.enc a2)).getD []:=by rw [e2];rfl
 obtain ⟨n,s,z,hrun⟩:=aF.runA aNf aGm (a:=(a0,a1,a2)) (xG a0 a1 a2 ⟨E2 w1.1,E2 w1.2⟩ (aFT.of w2.clock.now w2.clock.agenda.heap)) (ps:=[.agg ((pvL (cF.enc a0)).getD []),.agg ((pvL (RT.sv [.i .i64,.i .i64] a1)).getD []),.agg ((pvL (gP.enc a2)).getD [])]) rfl rfl
 refine (U0 (P:=Tryz.prog) (prims:=fun _=>true) (TT.tabOK TA) (TT.primsOK TA) kG hrun (us:=[v0,v1,v2]) (w:=W) (.cons _ _ _ _ k0 (.cons _ _ _ _ k1 (.cons _ _ _ _ k2 (.nil))))).mono fun e W' ⟨he,hb⟩=>?_
 subst he;exact ⟨_,rfl,WD (P:=Tryz.prog) (bt:=4) aNp rfl rfl (by kernel_rfl) (by
  rw [Tryz.params5];intro t ht;simp only [List.mem_cons,List.not_mem_nil,or_false] at ht;rcases ht with rfl|rfl|rfl
  · exact aNm
  · exact aNn
  · exact aNo) hW' rfl hb⟩
theorem kheapBuilds_holds:Rows.KheapBuildsSaid:=
 OpenClaim.holds_of_wide 5 Tryz.f5 rfl rfl rfl rfl rfl rfl rfl ⟨rfl,rfl,rfl,rfl,rfl⟩ rfl rfl rfl rfl rfl (by kernel_rfl) Tryz.func5 (by kernel_rfl)
  (of_decide_eq_true (by kernel_rfl)) (by unfold Func.isWrapper;first|(rw [if_pos (by decide+kernel)];kernel_rfl)|(rw [if_neg (by decide+kernel)];exact ⟨rfl,rfl⟩))
  (fun os started H enc _=>aF3 os started H enc)
end Go.Proofs.YtmlghnibpjlchaaGreat
