/- The law KheapAdvances returns true: its plain function gives true whatever comes in. -/
import Derived.Test.YtmlghnibpjlchaaGreatRows
import Derived.Test.YtmlghnibpjlchaaGreatAQS2
import Derived.Test.YtmlghnibpjlchaaGreatAQM3
import Derived.Test.YtmlghnibpjlchaaGreatAVm3
namespace Go.Proofs.YtmlghnibpjlchaaGreat
open Go.ChangeShapes Go.WideShapes Go.ChangeAt Go.RowKit Go.Vm
theorem V3:cI Tryz.prog 2 (gT [.i .i64]):=cI.int Tryz.underlying2
theorem T0:cI Tryz.prog 23 (gT [.i .i64,.i .i64]):=(cI.struct (Ks:=[(gT [.i .i64]),(gT [.i .i64])]) Tryz.underlying23 (bD.cons (by kernel_rfl) V3 (bD.cons (by kernel_rfl) V3 (bD.nil))) (by kernel_rfl)).mono (fun vs h=>oA (rs:=[[.i .i64],[.i .i64]]) h)
theorem C3:cI Tryz.prog 3 (gT [.i .i64]):=cI.int Tryz.underlying3
theorem aL6:cI Tryz.prog 81 (gT [.i .i64,.i .i64,.i .i64]):=(cI.struct (Ks:=[(gT [.i .i64]),(gT [.i .i64]),(gT [.i .i64])]) Tryz.underlying81 (bD.cons (by kernel_rfl) C3 (bD.cons (by kernel_rfl) V3 (bD.cons (by kernel_rfl) V3 (bD.nil)))) (by kernel_rfl)).mono (fun vs h=>oA (rs:=[[.i .i64],[.i .i64],[.i .i64]]) h)
theorem aL7:cI Tryz.prog 24 (RS [.i .i64,.i .i64,.i .i64]):=cI.slice (r:=[.i .i64,.i .i64,.i .i64]) Tryz.underlying24 aL6 (by kernel_rfl) (by decide)
structure Field.WF (c:Field):Prop where
 points: ∀a∈c.points,RT.wf [.i .i64,.i .i64,.i .i64] a
def V4:List SV->Prop:=fun vs=> ∃c:Field,vs=eD.enc c/\c.WF
theorem aL8:cI Tryz.prog 26 V4:=(cI.struct (Ks:=[(RS [.i .i64,.i .i64,.i .i64])]) Tryz.underlying26 (bD.cons (by kernel_rfl) aL7 (bD.nil)) (by kernel_rfl)).mono (by
 rintro vs ⟨_,b0,rfl,⟨c0,rfl,w0⟩,rfl⟩;refine ⟨⟨c0⟩,?_,⟨w0⟩⟩;simp only [List.append_nil]
 rfl)
theorem aL9:cI Tryz.prog 90 (gT [.i .i64,.i .i64]):=(cI.struct (Ks:=[(gT [.i .i64]),(gT [.i .i64])]) Tryz.underlying90 (bD.cons (by kernel_rfl) C3 (bD.cons (by kernel_rfl) C3 (bD.nil))) (by kernel_rfl)).mono (fun vs h=>oA (rs:=[[.i .i64],[.i .i64]]) h)
theorem aGC:cI Tryz.prog 121 (gT [.i .i64,.i .i64,.i .i64]):=(cI.struct (Ks:=[(gT [.i .i64]),(gT [.i .i64,.i .i64])]) Tryz.underlying121 (bD.cons (by kernel_rfl) C3 (bD.cons (by kernel_rfl) aL9 (bD.nil))) (by kernel_rfl)).mono (fun vs h=>oA (rs:=[[.i .i64],[.i .i64,.i .i64]]) h)
theorem aMa:cI Tryz.prog 27 (RS [.i .i64,.i .i64,.i .i64]):=cI.slice (r:=[.i .i64,.i .i64,.i .i64]) Tryz.underlying27 aGC (by kernel_rfl) (by decide)
structure aW.WF (c:aW):Prop where
 next_:RT.wf [.i .i64] c.next_
 list: ∀a∈c.list,RT.wf [.i .i64,.i .i64,.i .i64] a
def V5:List SV->Prop:=fun vs=> ∃c:aW,vs=fM.enc c/\c.WF
theorem aMb:cI Tryz.prog 29 V5:=(cI.struct (Ks:=[(gT [.i .i64]),(RS [.i .i64,.i .i64,.i .i64])]) Tryz.underlying29 (bD.cons (by kernel_rfl) C3 (bD.cons (by kernel_rfl) aMa (bD.nil))) (by kernel_rfl)).mono (by
 rintro vs ⟨_,b0,rfl,⟨c0,rfl,w0⟩,_,b1,rfl,⟨c1,rfl,w1⟩,rfl⟩;refine ⟨⟨c0,c1⟩,?_,⟨w0,w1⟩⟩;simp only [List.append_nil]
 rfl)
theorem OG:cI Tryz.prog 30 (RS [.i .i64]):=cI.slice (r:=[.i .i64]) Tryz.underlying30 C3 (by kernel_rfl) (by decide)
theorem aNU:cI Tryz.prog 4 (gT [.b]):=cI.bool Tryz.underlying4
theorem aMc:cI Tryz.prog 31 (RS [.b]):=cI.slice (r:=[.b]) Tryz.underlying31 aNU (by kernel_rfl) (by decide)
structure aS.WF (c:aS):Prop where
 uses: ∀a∈c.uses,RT.wf [.i .i64] a
 used: ∀a∈c.used,RT.wf [.b] a
 free: ∀a∈c.free,RT.wf [.i .i64] a
def V6:List SV->Prop:=fun vs=> ∃c:aS,vs=fL.enc c/\c.WF
theorem aMd:cI Tryz.prog 33 V6:=(cI.struct (Ks:=[(RS [.i .i64]),(RS [.b]),(RS [.i .i64])]) Tryz.underlying33 (bD.cons (by kernel_rfl) OG (bD.cons (by kernel_rfl) aMc (bD.cons (by kernel_rfl) OG (bD.nil)))) (by kernel_rfl)).mono (by
 rintro vs ⟨_,b0,rfl,⟨c0,rfl,w0⟩,_,b1,rfl,⟨c1,rfl,w1⟩,_,b2,rfl,⟨c2,rfl,w2⟩,rfl⟩;refine ⟨⟨c0,c1,c2⟩,?_,⟨w0,w1,w2⟩⟩;simp only [List.append_nil]
 rfl)
theorem aAG:cI Tryz.prog 70 (gT [.i .i64,.i .i64]):=(cI.struct (Ks:=[(gT [.i .i64]),(gT [.i .i64])]) Tryz.underlying70 (bD.cons (by kernel_rfl) C3 (bD.cons (by kernel_rfl) C3 (bD.nil))) (by kernel_rfl)).mono (fun vs h=>oA (rs:=[[.i .i64],[.i .i64]]) h)
theorem aMe:cI Tryz.prog 72 (gT [.i .i64,.i .i64,.i .i64,.i .i64,.i .i64]):=(cI.struct (Ks:=[(gT [.i .i64,.i .i64]),(gT [.i .i64]),(gT [.i .i64,.i .i64])]) Tryz.underlying72 (bD.cons (by kernel_rfl) T0 (bD.cons (by kernel_rfl) C3 (bD.cons (by kernel_rfl) aAG (bD.nil)))) (by kernel_rfl)).mono (fun vs h=>oA (rs:=[[.i .i64,.i .i64],[.i .i64],[.i .i64,.i .i64]]) h)
theorem aMf:cI Tryz.prog 34 (RS [.i .i64,.i .i64,.i .i64,.i .i64,.i .i64]):=cI.slice (r:=[.i .i64,.i .i64,.i .i64,.i .i64,.i .i64]) Tryz.underlying34 aMe (by kernel_rfl) (by decide)
structure aG.WF (c:aG):Prop where
 slots:aS.WF c.slots
 heap: ∀a∈c.heap,RT.wf [.i .i64,.i .i64,.i .i64,.i .i64,.i .i64] a
 where_: ∀a∈c.where_,RT.wf [.i .i64] a
def RR:List SV->Prop:=fun vs=> ∃c:aG,vs=cN.enc c/\c.WF
theorem aMg:cI Tryz.prog 36 RR:=(cI.struct (Ks:=[V6,(RS [.i .i64,.i .i64,.i .i64,.i .i64,.i .i64]),(RS [.i .i64])]) Tryz.underlying36 (bD.cons (by kernel_rfl) aMd (bD.cons (by kernel_rfl) aMf (bD.cons (by kernel_rfl) OG (bD.nil)))) (by kernel_rfl)).mono (by
 rintro vs ⟨_,b0,rfl,⟨c0,rfl,w0⟩,_,b1,rfl,⟨c1,rfl,w1⟩,_,b2,rfl,⟨c2,rfl,w2⟩,rfl⟩;refine ⟨⟨c0,c1,c2⟩,?_,⟨w0,w1,w2⟩⟩;simp only [List.append_nil]
 rfl)
theorem aGD:cI Tryz.prog 157 (gT [.i .i64,.i .i64,.i .i64]):=(cI.struct (Ks:=[(gT [.i .i64]),(gT [.i .i64,.i .i64])]) Tryz.underlying157 (bD.cons (by kernel_rfl) C3 (bD.cons (by kernel_rfl) aAG (bD.nil))) (by kernel_rfl)).mono (fun vs h=>oA (rs:=[[.i .i64],[.i .i64,.i .i64]]) h)
theorem aMh:cI Tryz.prog 37 (RS [.i .i64,.i .i64,.i .i64]):=cI.slice (r:=[.i .i64,.i .i64,.i .i64]) Tryz.underlying37 aGD (by kernel_rfl) (by decide)
structure aI.WF (c:aI):Prop where
 now:RT.wf [.i .i64,.i .i64] c.now
 field:Field.WF c.field
 certs:aW.WF c.certs
 agenda:aG.WF c.agenda
 due: ∀a∈c.due,RT.wf [.i .i64,.i .i64,.i .i64] a
def V7:List SV->Prop:=fun vs=> ∃c:aI,vs=bL.enc c/\c.WF
theorem aMi:cI Tryz.prog 39 V7:=(cI.struct (Ks:=[(gT [.i .i64,.i .i64]),V4,V5,RR,(RS [.i .i64,.i .i64,.i .i64])]) Tryz.underlying39 (bD.cons (by kernel_rfl) T0 (bD.cons (by kernel_rfl) aL8 (bD.cons (by kernel_rfl) aMb (bD.cons (by kernel_rfl) aMg (bD.cons (by kernel_rfl) aMh (bD.nil)))))) (by kernel_rfl)).mono (by
 rintro vs ⟨_,b0,rfl,⟨c0,rfl,w0⟩,_,b1,rfl,⟨c1,rfl,w1⟩,_,b2,rfl,⟨c2,rfl,w2⟩,_,b3,rfl,⟨c3,rfl,w3⟩,_,b4,rfl,⟨c4,rfl,w4⟩,rfl⟩;refine ⟨⟨c0,c1,c2,c3,c4⟩,?_,⟨w0,w1,w2,w3,w4⟩⟩;simp only [List.append_nil]
 rfl)
structure dC.WF (c:dC):Prop where
 clock:aI.WF c.clock
 heap: ∀a∈c.heap,RT.wf [.i .i64] a
def aGE:List SV->Prop:=fun vs=> ∃c:dC,vs=fW.enc c/\c.WF
theorem aMj:cI Tryz.prog 41 aGE:=(cI.struct (Ks:=[V7,(RS [.i .i64])]) Tryz.underlying41 (bD.cons (by kernel_rfl) aMi (bD.cons (by kernel_rfl) OG (bD.nil))) (by kernel_rfl)).mono (by
 rintro vs ⟨_,b0,rfl,⟨c0,rfl,w0⟩,_,b1,rfl,⟨c1,rfl,w1⟩,rfl⟩;refine ⟨⟨c0,c1⟩,?_,⟨w0,w1⟩⟩;simp only [List.append_nil]
 rfl)
theorem aNV:Tryz.prog.readableRec 41=true/\41<Tryz.prog.types.size:=⟨by kernel_rfl,of_decide_eq_true (by kernel_rfl)⟩
theorem aNW:Tryz.prog.readableRec 23=true/\23<Tryz.prog.types.size:=⟨by kernel_rfl,of_decide_eq_true (by kernel_rfl)⟩
theorem aPi:ownKnob Tryz.prog.godebug=none:=by kernel_rfl
theorem aNX:laidOutB Tryz.prog=true:=by kernel_rfl
set_option maxRecDepth 100000 in
theorem aGF (os:Os) (started:os.Started) (H:Type) (enc:TypeId×Value->H):
 ReturnsInHanded {} Tryz.checked os 3 .any (Rows.kheapAdvancesSpec.pre6 enc Tryz.prog Tryz.f3 Rows.kheapAdvancesRow.domain false) (Rows.kheapAdvancesSpec.post enc Tryz.prog Tryz.f3 false true false false):=by
 refine returnsInHanded_of_change (C:=Tryz.checked) aPi started (by kernel_rfl) Tryz.func3
  (ChangeSpec.witness6 (enc:=enc) (C:=Tryz.checked) false ⟨#[],#[.agg #[.int .i64 0,.int .i64 0,.slice none 0 0,.int .i64 0,.slice none 0 0,.slice none 0 0,.slice none 0 0,.slice none 0 0,.slice none 0 0,.slice none 0 0,.slice none 0 0,.slice none 0 0],.agg #[.int .i64 0,.int .i64 0]],[]⟩ 16 (by kernel_rfl) (by kernel_rfl) (by kernel_rfl) (by kernel_rfl)) ?_
 intro W base args ds gs before hval0 hW hcnd _;have hval: ∀(j:Nat) t v,Tryz.f3.params[j]? =some t->args[j]? =some v->Value.okWide Tryz.prog W .any base t v:=hval0;have hW':=hW;obtain ⟨p,q,hA0,hV,rfl,hfz,hnd⟩:=hW;have hA:DataW.TrodAll enc Tryz.prog W 0 (fun _=>true) true Tryz.f3.params.toList args.toList ds p:=hA0
 rw [Tryz.params3] at hA hval;obtain ⟨v0,vs0,d0,ds0,p0,q0,hargs,rfl,rfl,h0,r0⟩:=trodAll_cons hA;obtain ⟨v1,vs1,d1,ds1,p1,q1,rfl,rfl,rfl,h1,r1⟩:=trodAll_cons r0;obtain ⟨rfl,rfl,rfl⟩:=trodAll_nil r1;obtain rfl:args= #[v0,v1]:=by cases args;simp_all
 obtain ⟨rfl,rfl⟩:=trodVars_none hV;obtain ⟨_,g0,⟨a0,rfl,w0⟩,e0,k0⟩:=cI.argS aMj Tryz.underlying41 (hval 0 41 v0 rfl rfl) h0;obtain rfl:g0=(pvL (fW.enc a0)).getD []:=by rw [e0];rfl
 obtain ⟨_,g1,⟨a1,rfl,w1⟩,e1,k1⟩:=cI.argS T0 Tryz.underlying23 (hval 1 23 v1 rfl rfl) h1;obtain rfl:g1=(pvL (RT.sv [.i .i64,.i .i64] a1)).getD []:=by rw [e1];rfl
 obtain ⟨n,s,z,hrun⟩:=aH.runA aNL aGY (a:=(a0,a1)) (xB a0 a1 (aAw.of w0.clock.now w0.clock.agenda.heap) ⟨F7 w1.1,F7 w1.2⟩) (ps:=[.agg ((pvL (fW.enc a0)).getD []),.agg ((pvL (RT.sv [.i .i64,.i .i64] a1)).getD [])]) rfl rfl
 refine (WT (P:=Tryz.prog) (prims:=fun _=>true) (TT.tabOK UT) (TT.primsOK UT) lW hrun (us:=[v0,v1]) (w:=W) (.cons _ _ _ _ k0 (.cons _ _ _ _ k1 (.nil)))).mono fun e W' ⟨he,hb⟩=>?_
 subst he;exact ⟨_,rfl,YF (P:=Tryz.prog) (bt:=4) aNX rfl rfl (by kernel_rfl) (by
  rw [Tryz.params3];intro t ht;simp only [List.mem_cons,List.not_mem_nil,or_false] at ht;rcases ht with rfl|rfl
  · exact aNV
  · exact aNW) hW' rfl hb⟩
theorem kheapAdvances_holds:Rows.KheapAdvancesSaid:=
 OpenClaim.holds_of_wide 3 Tryz.f3 rfl rfl rfl rfl rfl rfl rfl ⟨rfl,rfl,rfl,rfl,rfl⟩ rfl rfl rfl rfl rfl (by kernel_rfl) Tryz.func3 (by kernel_rfl)
  (of_decide_eq_true (by kernel_rfl)) (by unfold Func.isWrapper;first|(rw [if_pos (by decide+kernel)];kernel_rfl)|(rw [if_neg (by decide+kernel)];exact ⟨rfl,rfl⟩))
  (fun os started H enc _=>aGF os started H enc)
end Go.Proofs.YtmlghnibpjlchaaGreat
