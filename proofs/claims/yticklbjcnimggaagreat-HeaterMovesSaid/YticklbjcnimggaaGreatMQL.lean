/- The law HeaterMoves returns true: its plain function gives true whatever comes in. -/
import Derived.Test.YticklbjcnimggaaGreatRows
import Derived.Test.YticklbjcnimggaaGreatMQS2
import Derived.Test.YticklbjcnimggaaGreatMQM4
import Derived.Test.YticklbjcnimggaaGreatMVm3
namespace Go.Proofs.YticklbjcnimggaaGreat
open Go.ChangeShapes Go.WideShapes Go.ChangeAt Go.RowKit Go.Vm
theorem X7:bW Tryz.prog 2 (gL [.i .i64]):=bW.int Tryz.underlying2
theorem VW:bW Tryz.prog 23 (gL [.i .i64,.i .i64]):=(bW.struct (Ks:=[(gL [.i .i64]),(gL [.i .i64])]) Tryz.underlying23 (bC.cons (by kernel_rfl) X7 (bC.cons (by kernel_rfl) X7 (bC.nil))) (by kernel_rfl)).mono (fun vs h=>nM (rs:=[[.i .i64],[.i .i64]]) h)
theorem xN:bW Tryz.prog 3 (gL [.i .i64]):=bW.int Tryz.underlying3
theorem aIb:bW Tryz.prog 127 (gL [.i .i64,.i .i64,.i .i64]):=(bW.struct (Ks:=[(gL [.i .i64]),(gL [.i .i64]),(gL [.i .i64])]) Tryz.underlying127 (bC.cons (by kernel_rfl) xN (bC.cons (by kernel_rfl) X7 (bC.cons (by kernel_rfl) X7 (bC.nil)))) (by kernel_rfl)).mono (fun vs h=>nM (rs:=[[.i .i64],[.i .i64],[.i .i64]]) h)
theorem aOi:bW Tryz.prog 24 (RU [.i .i64,.i .i64,.i .i64]):=bW.slice (r:=[.i .i64,.i .i64,.i .i64]) Tryz.underlying24 aIb (by kernel_rfl) (by decide)
structure Field.WF (c:Field):Prop where
 points: ∀a∈c.points,RT.wf [.i .i64,.i .i64,.i .i64] a
def X8:List SV->Prop:=fun vs=> ∃c:Field,vs=dA.enc c/\c.WF
theorem aOj:bW Tryz.prog 26 X8:=(bW.struct (Ks:=[(RU [.i .i64,.i .i64,.i .i64])]) Tryz.underlying26 (bC.cons (by kernel_rfl) aOi (bC.nil)) (by kernel_rfl)).mono (by
 rintro vs ⟨_,b0,rfl,⟨c0,rfl,w0⟩,rfl⟩;refine ⟨⟨c0⟩,?_,⟨w0⟩⟩;simp only [List.append_nil]
 rfl)
theorem aOk:bW Tryz.prog 95 (gL [.i .i64,.i .i64]):=(bW.struct (Ks:=[(gL [.i .i64]),(gL [.i .i64])]) Tryz.underlying95 (bC.cons (by kernel_rfl) xN (bC.cons (by kernel_rfl) xN (bC.nil))) (by kernel_rfl)).mono (fun vs h=>nM (rs:=[[.i .i64],[.i .i64]]) h)
theorem aIc:bW Tryz.prog 167 (gL [.i .i64,.i .i64,.i .i64]):=(bW.struct (Ks:=[(gL [.i .i64]),(gL [.i .i64,.i .i64])]) Tryz.underlying167 (bC.cons (by kernel_rfl) xN (bC.cons (by kernel_rfl) aOk (bC.nil))) (by kernel_rfl)).mono (fun vs h=>nM (rs:=[[.i .i64],[.i .i64,.i .i64]]) h)
theorem aOl:bW Tryz.prog 27 (RU [.i .i64,.i .i64,.i .i64]):=bW.slice (r:=[.i .i64,.i .i64,.i .i64]) Tryz.underlying27 aIc (by kernel_rfl) (by decide)
structure aT.WF (c:aT):Prop where
 next_:RT.wf [.i .i64] c.next_
 list: ∀a∈c.list,RT.wf [.i .i64,.i .i64,.i .i64] a
def X9:List SV->Prop:=fun vs=> ∃c:aT,vs=gH.enc c/\c.WF
theorem aOm:bW Tryz.prog 29 X9:=(bW.struct (Ks:=[(gL [.i .i64]),(RU [.i .i64,.i .i64,.i .i64])]) Tryz.underlying29 (bC.cons (by kernel_rfl) xN (bC.cons (by kernel_rfl) aOl (bC.nil))) (by kernel_rfl)).mono (by
 rintro vs ⟨_,b0,rfl,⟨c0,rfl,w0⟩,_,b1,rfl,⟨c1,rfl,w1⟩,rfl⟩;refine ⟨⟨c0,c1⟩,?_,⟨w0,w1⟩⟩;simp only [List.append_nil]
 rfl)
theorem VX:bW Tryz.prog 30 (RU [.i .i64]):=bW.slice (r:=[.i .i64]) Tryz.underlying30 xN (by kernel_rfl) (by decide)
theorem aQN:bW Tryz.prog 4 (gL [.b]):=bW.bool Tryz.underlying4
theorem aOn:bW Tryz.prog 31 (RU [.b]):=bW.slice (r:=[.b]) Tryz.underlying31 aQN (by kernel_rfl) (by decide)
structure aR.WF (c:aR):Prop where
 uses: ∀a∈c.uses,RT.wf [.i .i64] a
 used: ∀a∈c.used,RT.wf [.b] a
 free: ∀a∈c.free,RT.wf [.i .i64] a
def YA:List SV->Prop:=fun vs=> ∃c:aR,vs=gG.enc c/\c.WF
theorem aOo:bW Tryz.prog 33 YA:=(bW.struct (Ks:=[(RU [.i .i64]),(RU [.b]),(RU [.i .i64])]) Tryz.underlying33 (bC.cons (by kernel_rfl) VX (bC.cons (by kernel_rfl) aOn (bC.cons (by kernel_rfl) VX (bC.nil)))) (by kernel_rfl)).mono (by
 rintro vs ⟨_,b0,rfl,⟨c0,rfl,w0⟩,_,b1,rfl,⟨c1,rfl,w1⟩,_,b2,rfl,⟨c2,rfl,w2⟩,rfl⟩;refine ⟨⟨c0,c1,c2⟩,?_,⟨w0,w1,w2⟩⟩;simp only [List.append_nil]
 rfl)
theorem aB3:bW Tryz.prog 91 (gL [.i .i64,.i .i64]):=(bW.struct (Ks:=[(gL [.i .i64]),(gL [.i .i64])]) Tryz.underlying91 (bC.cons (by kernel_rfl) xN (bC.cons (by kernel_rfl) xN (bC.nil))) (by kernel_rfl)).mono (fun vs h=>nM (rs:=[[.i .i64],[.i .i64]]) h)
theorem aOp:bW Tryz.prog 93 (gL [.i .i64,.i .i64,.i .i64,.i .i64,.i .i64]):=(bW.struct (Ks:=[(gL [.i .i64,.i .i64]),(gL [.i .i64]),(gL [.i .i64,.i .i64])]) Tryz.underlying93 (bC.cons (by kernel_rfl) VW (bC.cons (by kernel_rfl) xN (bC.cons (by kernel_rfl) aB3 (bC.nil)))) (by kernel_rfl)).mono (fun vs h=>nM (rs:=[[.i .i64,.i .i64],[.i .i64],[.i .i64,.i .i64]]) h)
theorem aOq:bW Tryz.prog 34 (RU [.i .i64,.i .i64,.i .i64,.i .i64,.i .i64]):=bW.slice (r:=[.i .i64,.i .i64,.i .i64,.i .i64,.i .i64]) Tryz.underlying34 aOp (by kernel_rfl) (by decide)
structure aH.WF (c:aH):Prop where
 slots:aR.WF c.slots
 heap: ∀a∈c.heap,RT.wf [.i .i64,.i .i64,.i .i64,.i .i64,.i .i64] a
 where_: ∀a∈c.where_,RT.wf [.i .i64] a
def TH:List SV->Prop:=fun vs=> ∃c:aH,vs=cU.enc c/\c.WF
theorem aOr:bW Tryz.prog 36 TH:=(bW.struct (Ks:=[YA,(RU [.i .i64,.i .i64,.i .i64,.i .i64,.i .i64]),(RU [.i .i64])]) Tryz.underlying36 (bC.cons (by kernel_rfl) aOo (bC.cons (by kernel_rfl) aOq (bC.cons (by kernel_rfl) VX (bC.nil)))) (by kernel_rfl)).mono (by
 rintro vs ⟨_,b0,rfl,⟨c0,rfl,w0⟩,_,b1,rfl,⟨c1,rfl,w1⟩,_,b2,rfl,⟨c2,rfl,w2⟩,rfl⟩;refine ⟨⟨c0,c1,c2⟩,?_,⟨w0,w1,w2⟩⟩;simp only [List.append_nil]
 rfl)
theorem aId:bW Tryz.prog 137 (gL [.i .i64,.i .i64,.i .i64]):=(bW.struct (Ks:=[(gL [.i .i64]),(gL [.i .i64,.i .i64])]) Tryz.underlying137 (bC.cons (by kernel_rfl) xN (bC.cons (by kernel_rfl) aB3 (bC.nil))) (by kernel_rfl)).mono (fun vs h=>nM (rs:=[[.i .i64],[.i .i64,.i .i64]]) h)
theorem aOs:bW Tryz.prog 37 (RU [.i .i64,.i .i64,.i .i64]):=bW.slice (r:=[.i .i64,.i .i64,.i .i64]) Tryz.underlying37 aId (by kernel_rfl) (by decide)
structure aJ.WF (c:aJ):Prop where
 now:RT.wf [.i .i64,.i .i64] c.now
 field:Field.WF c.field
 certs:aT.WF c.certs
 agenda:aH.WF c.agenda
 due: ∀a∈c.due,RT.wf [.i .i64,.i .i64,.i .i64] a
def YB:List SV->Prop:=fun vs=> ∃c:aJ,vs=bJ.enc c/\c.WF
theorem aOt:bW Tryz.prog 39 YB:=(bW.struct (Ks:=[(gL [.i .i64,.i .i64]),X8,X9,TH,(RU [.i .i64,.i .i64,.i .i64])]) Tryz.underlying39 (bC.cons (by kernel_rfl) VW (bC.cons (by kernel_rfl) aOj (bC.cons (by kernel_rfl) aOm (bC.cons (by kernel_rfl) aOr (bC.cons (by kernel_rfl) aOs (bC.nil)))))) (by kernel_rfl)).mono (by
 rintro vs ⟨_,b0,rfl,⟨c0,rfl,w0⟩,_,b1,rfl,⟨c1,rfl,w1⟩,_,b2,rfl,⟨c2,rfl,w2⟩,_,b3,rfl,⟨c3,rfl,w3⟩,_,b4,rfl,⟨c4,rfl,w4⟩,rfl⟩;refine ⟨⟨c0,c1,c2,c3,c4⟩,?_,⟨w0,w1,w2,w3,w4⟩⟩;simp only [List.append_nil]
 rfl)
theorem aIe:bW Tryz.prog 110 (gL [.i .i64,.i .i64,.i .i64]):=(bW.struct (Ks:=[(gL [.i .i64]),(gL [.i .i64]),(gL [.i .i64])]) Tryz.underlying110 (bC.cons (by kernel_rfl) xN (bC.cons (by kernel_rfl) xN (bC.cons (by kernel_rfl) xN (bC.nil)))) (by kernel_rfl)).mono (fun vs h=>nM (rs:=[[.i .i64],[.i .i64],[.i .i64]]) h)
theorem aOu:bW Tryz.prog 40 (RU [.i .i64,.i .i64,.i .i64]):=bW.slice (r:=[.i .i64,.i .i64,.i .i64]) Tryz.underlying40 aIe (by kernel_rfl) (by decide)
structure mW.WF (c:mW):Prop where
 root:RT.wf [.i .i64] c.root
 nodes: ∀a∈c.nodes,RT.wf [.i .i64,.i .i64,.i .i64] a
def aB4:List SV->Prop:=fun vs=> ∃c:mW,vs=qD.enc c/\c.WF
theorem aOv:bW Tryz.prog 42 aB4:=(bW.struct (Ks:=[(gL [.i .i64]),(RU [.i .i64,.i .i64,.i .i64])]) Tryz.underlying42 (bC.cons (by kernel_rfl) xN (bC.cons (by kernel_rfl) aOu (bC.nil))) (by kernel_rfl)).mono (by
 rintro vs ⟨_,b0,rfl,⟨c0,rfl,w0⟩,_,b1,rfl,⟨c1,rfl,w1⟩,rfl⟩;refine ⟨⟨c0,c1⟩,?_,⟨w0,w1⟩⟩;simp only [List.append_nil]
 rfl)
structure cE.WF (c:cE):Prop where
 clock:aJ.WF c.clock
 tree:mW.WF c.tree
def aB5:List SV->Prop:=fun vs=> ∃c:cE,vs=eZ.enc c/\c.WF
theorem aOw:bW Tryz.prog 44 aB5:=(bW.struct (Ks:=[YB,aB4]) Tryz.underlying44 (bC.cons (by kernel_rfl) aOt (bC.cons (by kernel_rfl) aOv (bC.nil))) (by kernel_rfl)).mono (by
 rintro vs ⟨_,b0,rfl,⟨c0,rfl,w0⟩,_,b1,rfl,⟨c1,rfl,w1⟩,rfl⟩;refine ⟨⟨c0,c1⟩,?_,⟨w0,w1⟩⟩;simp only [List.append_nil]
 rfl)
theorem aQO:Tryz.prog.readableRec 44=true/\44<Tryz.prog.types.size:=⟨by kernel_rfl,of_decide_eq_true (by kernel_rfl)⟩
theorem aQP:Tryz.prog.readableRec 23=true/\23<Tryz.prog.types.size:=⟨by kernel_rfl,of_decide_eq_true (by kernel_rfl)⟩
theorem aSG:ownKnob Tryz.prog.godebug=none:=by kernel_rfl
theorem aQQ:laidOutB Tryz.prog=true:=by kernel_rfl
set_option maxRecDepth 100000 in
theorem aIf (os:Os) (started:os.Started) (H:Type) (enc:TypeId×Value->H):
 ReturnsInHanded {} Tryz.checked os 4 .any (Rows.heaterMovesSpec.pre6 enc Tryz.prog Tryz.f4 Rows.heaterMovesRow.domain false) (Rows.heaterMovesSpec.post enc Tryz.prog Tryz.f4 false true false false):=by
 refine returnsInHanded_of_change (C:=Tryz.checked) aSG started (by kernel_rfl) Tryz.func4
  (ChangeSpec.witness6 (enc:=enc) (C:=Tryz.checked) false ⟨#[],#[.agg #[.int .i64 0,.int .i64 0,.slice none 0 0,.int .i64 0,.slice none 0 0,.slice none 0 0,.slice none 0 0,.slice none 0 0,.slice none 0 0,.slice none 0 0,.slice none 0 0,.int .i64 0,.slice none 0 0],.agg #[.int .i64 0,.int .i64 0]],[]⟩ 16 (by kernel_rfl) (by kernel_rfl) (by kernel_rfl) (by kernel_rfl)) ?_
 intro W base args ds gs before hval0 hW hcnd _;have hval: ∀(j:Nat) t v,Tryz.f4.params[j]? =some t->args[j]? =some v->Value.okWide Tryz.prog W .any base t v:=hval0;have hW':=hW;obtain ⟨p,q,hA0,hV,rfl,hfz,hnd⟩:=hW;have hA:DataW.TrodAll enc Tryz.prog W 0 (fun _=>true) true Tryz.f4.params.toList args.toList ds p:=hA0
 rw [Tryz.params4] at hA hval;obtain ⟨v0,vs0,d0,ds0,p0,q0,hargs,rfl,rfl,h0,r0⟩:=trodAll_cons hA;obtain ⟨v1,vs1,d1,ds1,p1,q1,rfl,rfl,rfl,h1,r1⟩:=trodAll_cons r0;obtain ⟨rfl,rfl,rfl⟩:=trodAll_nil r1;obtain rfl:args= #[v0,v1]:=by cases args;simp_all
 obtain ⟨rfl,rfl⟩:=trodVars_none hV;obtain ⟨_,g0,⟨a0,rfl,w0⟩,e0,k0⟩:=bW.argS aOw Tryz.underlying44 (hval 0 44 v0 rfl rfl) h0;obtain rfl:g0=(pvL (eZ.enc a0)).getD []:=by rw [e0];rfl
 obtain ⟨_,g1,⟨a1,rfl,w1⟩,e1,k1⟩:=bW.argS VW Tryz.underlying23 (hval 1 23 v1 rfl rfl) h1;obtain rfl:g1=(pvL (RT.sv [.i .i64,.i .i64] a1)).getD []:=by rw [e1];rfl
 obtain ⟨n,s,z,hrun⟩:=aM.runA aQG aIC (a:=(a0,a1)) (A6 a0 a1 (aBX.of w0.clock.now w0.clock.agenda.heap) ⟨HM w1.1,HM w1.2⟩) (ps:=[.agg ((pvL (eZ.enc a0)).getD []),.agg ((pvL (RT.sv [.i .i64,.i .i64] a1)).getD [])]) rfl rfl
 refine (YU (P:=Tryz.prog) (prims:=fun _=>true) (TT.tabOK WU) (TT.primsOK WU) mV hrun (us:=[v0,v1]) (w:=W) (.cons _ _ _ _ k0 (.cons _ _ _ _ k1 (.nil)))).mono fun e W' ⟨he,hb⟩=>?_
 subst he;exact ⟨_,rfl,aAj (P:=Tryz.prog) (bt:=4) aQQ rfl rfl (by kernel_rfl) (by
  rw [Tryz.params4];intro t ht;simp only [List.mem_cons,List.not_mem_nil,or_false] at ht;rcases ht with rfl|rfl
  · exact aQO
  · exact aQP) hW' rfl hb⟩
theorem heaterMoves_holds:Rows.HeaterMovesSaid:=
 OpenClaim.holds_of_wide 4 Tryz.f4 rfl rfl rfl rfl rfl rfl rfl ⟨rfl,rfl,rfl,rfl,rfl⟩ rfl rfl rfl rfl rfl (by kernel_rfl) Tryz.func4 (by kernel_rfl)
  (of_decide_eq_true (by kernel_rfl)) (by unfold Func.isWrapper;first|(rw [if_pos (by decide+kernel)];kernel_rfl)|(rw [if_neg (by decide+kernel)];exact ⟨rfl,rfl⟩))
  (fun os started H enc _=>aIf os started H enc)
end Go.Proofs.YticklbjcnimggaaGreat
