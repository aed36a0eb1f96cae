/- The law HeditTakes returns true: its plain function gives true whatever comes in. -/
import Derived.Test.YtmlghnibpjlchaaGreatRows
import Derived.Test.YtmlghnibpjlchaaGreatTQS2
import Derived.Test.YtmlghnibpjlchaaGreatTQM4
import Derived.Test.YtmlghnibpjlchaaGreatTVm3
namespace Go.Proofs.YtmlghnibpjlchaaGreat
open Go.ChangeShapes Go.WideShapes Go.ChangeAt Go.RowKit Go.Vm
theorem XH:cJ Tryz.prog 2 (hO [.i .i64]):=cJ.int Tryz.underlying2
theorem aBu:cJ Tryz.prog 23 (hO [.i .i64,.i .i64]):=(cJ.struct (Ks:=[(hO [.i .i64]),(hO [.i .i64])]) Tryz.underlying23 (bB.cons (by kernel_rfl) XH (bB.cons (by kernel_rfl) XH (bB.nil))) (by kernel_rfl)).mono (fun vs h=>pA (rs:=[[.i .i64],[.i .i64]]) h)
theorem D9:cJ Tryz.prog 3 (hO [.i .i64]):=cJ.int Tryz.underlying3
theorem aNt:cJ Tryz.prog 81 (hO [.i .i64,.i .i64,.i .i64]):=(cJ.struct (Ks:=[(hO [.i .i64]),(hO [.i .i64]),(hO [.i .i64])]) Tryz.underlying81 (bB.cons (by kernel_rfl) D9 (bB.cons (by kernel_rfl) XH (bB.cons (by kernel_rfl) XH (bB.nil)))) (by kernel_rfl)).mono (fun vs h=>pA (rs:=[[.i .i64],[.i .i64],[.i .i64]]) h)
theorem aNu:cJ Tryz.prog 24 (S7 [.i .i64,.i .i64,.i .i64]):=cJ.slice (r:=[.i .i64,.i .i64,.i .i64]) Tryz.underlying24 aNt (by kernel_rfl) (by decide)
structure Field.WF (c:Field):Prop where
 points: ∀a∈c.points,RT.wf [.i .i64,.i .i64,.i .i64] a
def XI:List SV->Prop:=fun vs=> ∃c:Field,vs=cA.enc c/\c.WF
theorem aNv:cJ Tryz.prog 26 XI:=(cJ.struct (Ks:=[(S7 [.i .i64,.i .i64,.i .i64])]) Tryz.underlying26 (bB.cons (by kernel_rfl) aNu (bB.nil)) (by kernel_rfl)).mono (by
 rintro vs ⟨_,b0,rfl,⟨c0,rfl,w0⟩,rfl⟩;refine ⟨⟨c0⟩,?_,⟨w0⟩⟩;simp only [List.append_nil]
 rfl)
theorem aNw:cJ Tryz.prog 90 (hO [.i .i64,.i .i64]):=(cJ.struct (Ks:=[(hO [.i .i64]),(hO [.i .i64])]) Tryz.underlying90 (bB.cons (by kernel_rfl) D9 (bB.cons (by kernel_rfl) D9 (bB.nil))) (by kernel_rfl)).mono (fun vs h=>pA (rs:=[[.i .i64],[.i .i64]]) h)
theorem aHQ:cJ Tryz.prog 121 (hO [.i .i64,.i .i64,.i .i64]):=(cJ.struct (Ks:=[(hO [.i .i64]),(hO [.i .i64,.i .i64])]) Tryz.underlying121 (bB.cons (by kernel_rfl) D9 (bB.cons (by kernel_rfl) aNw (bB.nil))) (by kernel_rfl)).mono (fun vs h=>pA (rs:=[[.i .i64],[.i .i64,.i .i64]]) h)
theorem aNx:cJ Tryz.prog 27 (S7 [.i .i64,.i .i64,.i .i64]):=cJ.slice (r:=[.i .i64,.i .i64,.i .i64]) Tryz.underlying27 aHQ (by kernel_rfl) (by decide)
structure aU.WF (c:aU):Prop where
 next_:RT.wf [.i .i64] c.next_
 list: ∀a∈c.list,RT.wf [.i .i64,.i .i64,.i .i64] a
def XJ:List SV->Prop:=fun vs=> ∃c:aU,vs=gK.enc c/\c.WF
theorem aNy:cJ Tryz.prog 29 XJ:=(cJ.struct (Ks:=[(hO [.i .i64]),(S7 [.i .i64,.i .i64,.i .i64])]) Tryz.underlying29 (bB.cons (by kernel_rfl) D9 (bB.cons (by kernel_rfl) aNx (bB.nil))) (by kernel_rfl)).mono (by
 rintro vs ⟨_,b0,rfl,⟨c0,rfl,w0⟩,_,b1,rfl,⟨c1,rfl,w1⟩,rfl⟩;refine ⟨⟨c0,c1⟩,?_,⟨w0,w1⟩⟩;simp only [List.append_nil]
 rfl)
theorem PQ:cJ Tryz.prog 30 (S7 [.i .i64]):=cJ.slice (r:=[.i .i64]) Tryz.underlying30 D9 (by kernel_rfl) (by decide)
theorem aPT:cJ Tryz.prog 4 (hO [.b]):=cJ.bool Tryz.underlying4
theorem aNz:cJ Tryz.prog 31 (S7 [.b]):=cJ.slice (r:=[.b]) Tryz.underlying31 aPT (by kernel_rfl) (by decide)
structure aQ.WF (c:aQ):Prop where
 uses: ∀a∈c.uses,RT.wf [.i .i64] a
 used: ∀a∈c.used,RT.wf [.b] a
 free: ∀a∈c.free,RT.wf [.i .i64] a
def XK:List SV->Prop:=fun vs=> ∃c:aQ,vs=gC.enc c/\c.WF
theorem aNA:cJ Tryz.prog 33 XK:=(cJ.struct (Ks:=[(S7 [.i .i64]),(S7 [.b]),(S7 [.i .i64])]) Tryz.underlying33 (bB.cons (by kernel_rfl) PQ (bB.cons (by kernel_rfl) aNz (bB.cons (by kernel_rfl) PQ (bB.nil)))) (by kernel_rfl)).mono (by
 rintro vs ⟨_,b0,rfl,⟨c0,rfl,w0⟩,_,b1,rfl,⟨c1,rfl,w1⟩,_,b2,rfl,⟨c2,rfl,w2⟩,rfl⟩;refine ⟨⟨c0,c1,c2⟩,?_,⟨w0,w1,w2⟩⟩;simp only [List.append_nil]
 rfl)
theorem aBv:cJ Tryz.prog 70 (hO [.i .i64,.i .i64]):=(cJ.struct (Ks:=[(hO [.i .i64]),(hO [.i .i64])]) Tryz.underlying70 (bB.cons (by kernel_rfl) D9 (bB.cons (by kernel_rfl) D9 (bB.nil))) (by kernel_rfl)).mono (fun vs h=>pA (rs:=[[.i .i64],[.i .i64]]) h)
theorem aNB:cJ Tryz.prog 72 (hO [.i .i64,.i .i64,.i .i64,.i .i64,.i .i64]):=(cJ.struct (Ks:=[(hO [.i .i64,.i .i64]),(hO [.i .i64]),(hO [.i .i64,.i .i64])]) Tryz.underlying72 (bB.cons (by kernel_rfl) aBu (bB.cons (by kernel_rfl) D9 (bB.cons (by kernel_rfl) aBv (bB.nil)))) (by kernel_rfl)).mono (fun vs h=>pA (rs:=[[.i .i64,.i .i64],[.i .i64],[.i .i64,.i .i64]]) h)
theorem aNC:cJ Tryz.prog 34 (S7 [.i .i64,.i .i64,.i .i64,.i .i64,.i .i64]):=cJ.slice (r:=[.i .i64,.i .i64,.i .i64,.i .i64,.i .i64]) Tryz.underlying34 aNB (by kernel_rfl) (by decide)
structure aG.WF (c:aG):Prop where
 slots:aQ.WF c.slots
 heap: ∀a∈c.heap,RT.wf [.i .i64,.i .i64,.i .i64,.i .i64,.i .i64] a
 where_: ∀a∈c.where_,RT.wf [.i .i64] a
def S6:List SV->Prop:=fun vs=> ∃c:aG,vs=cZ.enc c/\c.WF
theorem aND:cJ Tryz.prog 36 S6:=(cJ.struct (Ks:=[XK,(S7 [.i .i64,.i .i64,.i .i64,.i .i64,.i .i64]),(S7 [.i .i64])]) Tryz.underlying36 (bB.cons (by kernel_rfl) aNA (bB.cons (by kernel_rfl) aNC (bB.cons (by kernel_rfl) PQ (bB.nil)))) (by kernel_rfl)).mono (by
 rintro vs ⟨_,b0,rfl,⟨c0,rfl,w0⟩,_,b1,rfl,⟨c1,rfl,w1⟩,_,b2,rfl,⟨c2,rfl,w2⟩,rfl⟩;refine ⟨⟨c0,c1,c2⟩,?_,⟨w0,w1,w2⟩⟩;simp only [List.append_nil]
 rfl)
theorem aHR:cJ Tryz.prog 157 (hO [.i .i64,.i .i64,.i .i64]):=(cJ.struct (Ks:=[(hO [.i .i64]),(hO [.i .i64,.i .i64])]) Tryz.underlying157 (bB.cons (by kernel_rfl) D9 (bB.cons (by kernel_rfl) aBv (bB.nil))) (by kernel_rfl)).mono (fun vs h=>pA (rs:=[[.i .i64],[.i .i64,.i .i64]]) h)
theorem aNE:cJ Tryz.prog 37 (S7 [.i .i64,.i .i64,.i .i64]):=cJ.slice (r:=[.i .i64,.i .i64,.i .i64]) Tryz.underlying37 aHR (by kernel_rfl) (by decide)
structure aP.WF (c:aP):Prop where
 now:RT.wf [.i .i64,.i .i64] c.now
 field:Field.WF c.field
 certs:aU.WF c.certs
 agenda:aG.WF c.agenda
 due: ∀a∈c.due,RT.wf [.i .i64,.i .i64,.i .i64] a
def XL:List SV->Prop:=fun vs=> ∃c:aP,vs=bR.enc c/\c.WF
theorem aNF:cJ Tryz.prog 39 XL:=(cJ.struct (Ks:=[(hO [.i .i64,.i .i64]),XI,XJ,S6,(S7 [.i .i64,.i .i64,.i .i64])]) Tryz.underlying39 (bB.cons (by kernel_rfl) aBu (bB.cons (by kernel_rfl) aNv (bB.cons (by kernel_rfl) aNy (bB.cons (by kernel_rfl) aND (bB.cons (by kernel_rfl) aNE (bB.nil)))))) (by kernel_rfl)).mono (by
 rintro vs ⟨_,b0,rfl,⟨c0,rfl,w0⟩,_,b1,rfl,⟨c1,rfl,w1⟩,_,b2,rfl,⟨c2,rfl,w2⟩,_,b3,rfl,⟨c3,rfl,w3⟩,_,b4,rfl,⟨c4,rfl,w4⟩,rfl⟩;refine ⟨⟨c0,c1,c2,c3,c4⟩,?_,⟨w0,w1,w2,w3,w4⟩⟩;simp only [List.append_nil]
 rfl)
structure dH.WF (c:dH):Prop where
 clock:aP.WF c.clock
 heap: ∀a∈c.heap,RT.wf [.i .i64] a
def aHS:List SV->Prop:=fun vs=> ∃c:dH,vs=iC.enc c/\c.WF
theorem aNG:cJ Tryz.prog 41 aHS:=(cJ.struct (Ks:=[XL,(S7 [.i .i64])]) Tryz.underlying41 (bB.cons (by kernel_rfl) aNF (bB.cons (by kernel_rfl) PQ (bB.nil))) (by kernel_rfl)).mono (by
 rintro vs ⟨_,b0,rfl,⟨c0,rfl,w0⟩,_,b1,rfl,⟨c1,rfl,w1⟩,rfl⟩;refine ⟨⟨c0,c1⟩,?_,⟨w0,w1⟩⟩;simp only [List.append_nil]
 rfl)
theorem aPU:Tryz.prog.readableRec 41=true/\41<Tryz.prog.types.size:=⟨by kernel_rfl,of_decide_eq_true (by kernel_rfl)⟩
theorem aRi:Tryz.prog.readableRec 3=true/\3<Tryz.prog.types.size:=⟨by kernel_rfl,of_decide_eq_true (by kernel_rfl)⟩
theorem aRj:ownKnob Tryz.prog.godebug=none:=by kernel_rfl
theorem aPV:laidOutB Tryz.prog=true:=by kernel_rfl
set_option maxRecDepth 100000 in
theorem aHT (os:Os) (started:os.Started) (H:Type) (enc:TypeId×Value->H):
 ReturnsInHanded {} Tryz.checked os 4 .any (Rows.heditTakesSpec.pre6 enc Tryz.prog Tryz.f4 Rows.heditTakesRow.domain false) (Rows.heditTakesSpec.post enc Tryz.prog Tryz.f4 false true false false):=by
 refine returnsInHanded_of_change (C:=Tryz.checked) aRj started (by kernel_rfl) Tryz.func4
  (ChangeSpec.witness6 (enc:=enc) (C:=Tryz.checked) false ⟨#[],#[.agg #[.int .i64 0,.int .i64 0,.slice none 0 0,.int .i64 0,.slice none 0 0,.slice none 0 0,.slice none 0 0,.slice none 0 0,.slice none 0 0,.slice none 0 0,.slice none 0 0,.slice none 0 0],.int .i64 0],[]⟩ 16 (by kernel_rfl) (by kernel_rfl) (by kernel_rfl) (by kernel_rfl)) ?_
 intro W base args ds gs before hval0 hW hcnd _;have hval: ∀(j:Nat) t v,Tryz.f4.params[j]? =some t->args[j]? =some v->Value.okWide Tryz.prog W .any base t v:=hval0;have hW':=hW;obtain ⟨p,q,hA0,hV,rfl,hfz,hnd⟩:=hW;have hA:DataW.TrodAll enc Tryz.prog W 0 (fun _=>true) true Tryz.f4.params.toList args.toList ds p:=hA0
 rw [Tryz.params4] at hA hval;obtain ⟨v0,vs0,d0,ds0,p0,q0,hargs,rfl,rfl,h0,r0⟩:=trodAll_cons hA;obtain ⟨v1,vs1,d1,ds1,p1,q1,rfl,rfl,rfl,h1,r1⟩:=trodAll_cons r0;obtain ⟨rfl,rfl,rfl⟩:=trodAll_nil r1;obtain rfl:args= #[v0,v1]:=by cases args;simp_all
 obtain ⟨rfl,rfl⟩:=trodVars_none hV;obtain ⟨_,g0,⟨a0,rfl,w0⟩,e0,k0⟩:=cJ.argS aNG Tryz.underlying41 (hval 0 41 v0 rfl rfl) h0;obtain rfl:g0=(pvL (iC.enc a0)).getD []:=by rw [e0];rfl
 obtain ⟨a1,w1,k1⟩:=cJ.argI Tryz.underlying3 (hval 1 3 v1 rfl rfl) h1;obtain ⟨n,s,z,hrun⟩:=aK.runA aPH aIc (a:=(a0,a1)) (BH a0 a1 (aBk.of w0.clock.now w0.clock.agenda.heap)) (ps:=[.agg ((pvL (iC.enc a0)).getD []),.int .i64 a1]) rfl rfl
 refine (X4 (P:=Tryz.prog) (prims:=fun _=>true) (TT.tabOK V3) (TT.primsOK V3) mO hrun (us:=[v0,v1]) (w:=W) (.cons _ _ _ _ k0 (.cons _ _ _ _ k1 (.nil)))).mono fun e W' ⟨he,hb⟩=>?_
 subst he;exact ⟨_,rfl,ZK (P:=Tryz.prog) (bt:=4) aPV rfl rfl (by kernel_rfl) (by
  rw [Tryz.params4];intro t ht;simp only [List.mem_cons,List.not_mem_nil,or_false] at ht;rcases ht with rfl|rfl
  · exact aPU
  · exact aRi) hW' rfl hb⟩
theorem heditTakes_holds:Rows.HeditTakesSaid:=
 OpenClaim.holds_of_wide 4 Tryz.f4 rfl rfl rfl rfl rfl rfl rfl ⟨rfl,rfl,rfl,rfl,rfl⟩ rfl rfl rfl rfl rfl (by kernel_rfl) Tryz.func4 (by kernel_rfl)
  (of_decide_eq_true (by kernel_rfl)) (by unfold Func.isWrapper;first|(rw [if_pos (by decide+kernel)];kernel_rfl)|(rw [if_neg (by decide+kernel)];exact ⟨rfl,rfl⟩))
  (fun os started H enc _=>aHT os started H enc)
end Go.Proofs.YtmlghnibpjlchaaGreat
