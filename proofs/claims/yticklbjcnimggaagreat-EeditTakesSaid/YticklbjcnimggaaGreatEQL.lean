/- The law EeditTakes returns true: its plain function gives true whatever comes in. -/
import Derived.Test.YticklbjcnimggaaGreatRows
import Derived.Test.YticklbjcnimggaaGreatEQS2
import Derived.Test.YticklbjcnimggaaGreatEQM4
import Derived.Test.YticklbjcnimggaaGreatEVm3
namespace Go.Proofs.YticklbjcnimggaaGreat
open Go.ChangeShapes Go.WideShapes Go.ChangeAt Go.RowKit Go.Vm
theorem XI:bW Tryz.prog 2 (gB [.i .i64]):=bW.int Tryz.underlying2
theorem aBr:bW Tryz.prog 23 (gB [.i .i64,.i .i64]):=(bW.struct (Ks:=[(gB [.i .i64]),(gB [.i .i64])]) Tryz.underlying23 (bA.cons (by kernel_rfl) XI (bA.cons (by kernel_rfl) XI (bA.nil))) (by kernel_rfl)).mono (fun vs h=>nF (rs:=[[.i .i64],[.i .i64]]) h)
theorem xF:bW Tryz.prog 3 (gB [.i .i64]):=bW.int Tryz.underlying3
theorem aHv:bW Tryz.prog 127 (gB [.i .i64,.i .i64,.i .i64]):=(bW.struct (Ks:=[(gB [.i .i64]),(gB [.i .i64]),(gB [.i .i64])]) Tryz.underlying127 (bA.cons (by kernel_rfl) xF (bA.cons (by kernel_rfl) XI (bA.cons (by kernel_rfl) XI (bA.nil)))) (by kernel_rfl)).mono (fun vs h=>nF (rs:=[[.i .i64],[.i .i64],[.i .i64]]) h)
theorem aNh:bW Tryz.prog 24 (Q8 [.i .i64,.i .i64,.i .i64]):=bW.slice (r:=[.i .i64,.i .i64,.i .i64]) Tryz.underlying24 aHv (by kernel_rfl) (by decide)
structure Field.WF (c:Field):Prop where
 points: ∀a∈c.points,RT.wf [.i .i64,.i .i64,.i .i64] a
def XJ:List SV->Prop:=fun vs=> ∃c:Field,vs=bZ.enc c/\c.WF
theorem aNi:bW Tryz.prog 26 XJ:=(bW.struct (Ks:=[(Q8 [.i .i64,.i .i64,.i .i64])]) Tryz.underlying26 (bA.cons (by kernel_rfl) aNh (bA.nil)) (by kernel_rfl)).mono (by
 rintro vs ⟨_,b0,rfl,⟨c0,rfl,w0⟩,rfl⟩;refine ⟨⟨c0⟩,?_,⟨w0⟩⟩;simp only [List.append_nil]
 rfl)
theorem aNj:bW Tryz.prog 95 (gB [.i .i64,.i .i64]):=(bW.struct (Ks:=[(gB [.i .i64]),(gB [.i .i64])]) Tryz.underlying95 (bA.cons (by kernel_rfl) xF (bA.cons (by kernel_rfl) xF (bA.nil))) (by kernel_rfl)).mono (fun vs h=>nF (rs:=[[.i .i64],[.i .i64]]) h)
theorem aHw:bW Tryz.prog 167 (gB [.i .i64,.i .i64,.i .i64]):=(bW.struct (Ks:=[(gB [.i .i64]),(gB [.i .i64,.i .i64])]) Tryz.underlying167 (bA.cons (by kernel_rfl) xF (bA.cons (by kernel_rfl) aNj (bA.nil))) (by kernel_rfl)).mono (fun vs h=>nF (rs:=[[.i .i64],[.i .i64,.i .i64]]) h)
theorem aNk:bW Tryz.prog 27 (Q8 [.i .i64,.i .i64,.i .i64]):=bW.slice (r:=[.i .i64,.i .i64,.i .i64]) Tryz.underlying27 aHw (by kernel_rfl) (by decide)
structure aV.WF (c:aV):Prop where
 next_:RT.wf [.i .i64] c.next_
 list: ∀a∈c.list,RT.wf [.i .i64,.i .i64,.i .i64] a
def XK:List SV->Prop:=fun vs=> ∃c:aV,vs=gG.enc c/\c.WF
theorem aNl:bW Tryz.prog 29 XK:=(bW.struct (Ks:=[(gB [.i .i64]),(Q8 [.i .i64,.i .i64,.i .i64])]) Tryz.underlying29 (bA.cons (by kernel_rfl) xF (bA.cons (by kernel_rfl) aNk (bA.nil))) (by kernel_rfl)).mono (by
 rintro vs ⟨_,b0,rfl,⟨c0,rfl,w0⟩,_,b1,rfl,⟨c1,rfl,w1⟩,rfl⟩;refine ⟨⟨c0,c1⟩,?_,⟨w0,w1⟩⟩;simp only [List.append_nil]
 rfl)
theorem VA:bW Tryz.prog 30 (Q8 [.i .i64]):=bW.slice (r:=[.i .i64]) Tryz.underlying30 xF (by kernel_rfl) (by decide)
theorem aPQ:bW Tryz.prog 4 (gB [.b]):=bW.bool Tryz.underlying4
theorem aNm:bW Tryz.prog 31 (Q8 [.b]):=bW.slice (r:=[.b]) Tryz.underlying31 aPQ (by kernel_rfl) (by decide)
structure aQ.WF (c:aQ):Prop where
 uses: ∀a∈c.uses,RT.wf [.i .i64] a
 used: ∀a∈c.used,RT.wf [.b] a
 free: ∀a∈c.free,RT.wf [.i .i64] a
def XL:List SV->Prop:=fun vs=> ∃c:aQ,vs=fY.enc c/\c.WF
theorem aNn:bW Tryz.prog 33 XL:=(bW.struct (Ks:=[(Q8 [.i .i64]),(Q8 [.b]),(Q8 [.i .i64])]) Tryz.underlying33 (bA.cons (by kernel_rfl) VA (bA.cons (by kernel_rfl) aNm (bA.cons (by kernel_rfl) VA (bA.nil)))) (by kernel_rfl)).mono (by
 rintro vs ⟨_,b0,rfl,⟨c0,rfl,w0⟩,_,b1,rfl,⟨c1,rfl,w1⟩,_,b2,rfl,⟨c2,rfl,w2⟩,rfl⟩;refine ⟨⟨c0,c1,c2⟩,?_,⟨w0,w1,w2⟩⟩;simp only [List.append_nil]
 rfl)
theorem aBs:bW Tryz.prog 91 (gB [.i .i64,.i .i64]):=(bW.struct (Ks:=[(gB [.i .i64]),(gB [.i .i64])]) Tryz.underlying91 (bA.cons (by kernel_rfl) xF (bA.cons (by kernel_rfl) xF (bA.nil))) (by kernel_rfl)).mono (fun vs h=>nF (rs:=[[.i .i64],[.i .i64]]) h)
theorem aNo:bW Tryz.prog 93 (gB [.i .i64,.i .i64,.i .i64,.i .i64,.i .i64]):=(bW.struct (Ks:=[(gB [.i .i64,.i .i64]),(gB [.i .i64]),(gB [.i .i64,.i .i64])]) Tryz.underlying93 (bA.cons (by kernel_rfl) aBr (bA.cons (by kernel_rfl) xF (bA.cons (by kernel_rfl) aBs (bA.nil)))) (by kernel_rfl)).mono (fun vs h=>nF (rs:=[[.i .i64,.i .i64],[.i .i64],[.i .i64,.i .i64]]) h)
theorem aNp:bW Tryz.prog 34 (Q8 [.i .i64,.i .i64,.i .i64,.i .i64,.i .i64]):=bW.slice (r:=[.i .i64,.i .i64,.i .i64,.i .i64,.i .i64]) Tryz.underlying34 aNo (by kernel_rfl) (by decide)
structure aH.WF (c:aH):Prop where
 slots:aQ.WF c.slots
 heap: ∀a∈c.heap,RT.wf [.i .i64,.i .i64,.i .i64,.i .i64,.i .i64] a
 where_: ∀a∈c.where_,RT.wf [.i .i64] a
def SY:List SV->Prop:=fun vs=> ∃c:aH,vs=cY.enc c/\c.WF
theorem aNq:bW Tryz.prog 36 SY:=(bW.struct (Ks:=[XL,(Q8 [.i .i64,.i .i64,.i .i64,.i .i64,.i .i64]),(Q8 [.i .i64])]) Tryz.underlying36 (bA.cons (by kernel_rfl) aNn (bA.cons (by kernel_rfl) aNp (bA.cons (by kernel_rfl) VA (bA.nil)))) (by kernel_rfl)).mono (by
 rintro vs ⟨_,b0,rfl,⟨c0,rfl,w0⟩,_,b1,rfl,⟨c1,rfl,w1⟩,_,b2,rfl,⟨c2,rfl,w2⟩,rfl⟩;refine ⟨⟨c0,c1,c2⟩,?_,⟨w0,w1,w2⟩⟩;simp only [List.append_nil]
 rfl)
theorem aHx:bW Tryz.prog 137 (gB [.i .i64,.i .i64,.i .i64]):=(bW.struct (Ks:=[(gB [.i .i64]),(gB [.i .i64,.i .i64])]) Tryz.underlying137 (bA.cons (by kernel_rfl) xF (bA.cons (by kernel_rfl) aBs (bA.nil))) (by kernel_rfl)).mono (fun vs h=>nF (rs:=[[.i .i64],[.i .i64,.i .i64]]) h)
theorem aNr:bW Tryz.prog 37 (Q8 [.i .i64,.i .i64,.i .i64]):=bW.slice (r:=[.i .i64,.i .i64,.i .i64]) Tryz.underlying37 aHx (by kernel_rfl) (by decide)
structure aP.WF (c:aP):Prop where
 now:RT.wf [.i .i64,.i .i64] c.now
 field:Field.WF c.field
 certs:aV.WF c.certs
 agenda:aH.WF c.agenda
 due: ∀a∈c.due,RT.wf [.i .i64,.i .i64,.i .i64] a
def XM:List SV->Prop:=fun vs=> ∃c:aP,vs=bQ.enc c/\c.WF
theorem aNs:bW Tryz.prog 39 XM:=(bW.struct (Ks:=[(gB [.i .i64,.i .i64]),XJ,XK,SY,(Q8 [.i .i64,.i .i64,.i .i64])]) Tryz.underlying39 (bA.cons (by kernel_rfl) aBr (bA.cons (by kernel_rfl) aNi (bA.cons (by kernel_rfl) aNl (bA.cons (by kernel_rfl) aNq (bA.cons (by kernel_rfl) aNr (bA.nil)))))) (by kernel_rfl)).mono (by
 rintro vs ⟨_,b0,rfl,⟨c0,rfl,w0⟩,_,b1,rfl,⟨c1,rfl,w1⟩,_,b2,rfl,⟨c2,rfl,w2⟩,_,b3,rfl,⟨c3,rfl,w3⟩,_,b4,rfl,⟨c4,rfl,w4⟩,rfl⟩;refine ⟨⟨c0,c1,c2,c3,c4⟩,?_,⟨w0,w1,w2,w3,w4⟩⟩;simp only [List.append_nil]
 rfl)
theorem aHy:bW Tryz.prog 110 (gB [.i .i64,.i .i64,.i .i64]):=(bW.struct (Ks:=[(gB [.i .i64]),(gB [.i .i64]),(gB [.i .i64])]) Tryz.underlying110 (bA.cons (by kernel_rfl) xF (bA.cons (by kernel_rfl) xF (bA.cons (by kernel_rfl) xF (bA.nil)))) (by kernel_rfl)).mono (fun vs h=>nF (rs:=[[.i .i64],[.i .i64],[.i .i64]]) h)
theorem aNt:bW Tryz.prog 40 (Q8 [.i .i64,.i .i64,.i .i64]):=bW.slice (r:=[.i .i64,.i .i64,.i .i64]) Tryz.underlying40 aHy (by kernel_rfl) (by decide)
structure oA.WF (c:oA):Prop where
 root:RT.wf [.i .i64] c.root
 nodes: ∀a∈c.nodes,RT.wf [.i .i64,.i .i64,.i .i64] a
def aBt:List SV->Prop:=fun vs=> ∃c:oA,vs=oR.enc c/\c.WF
theorem aNu:bW Tryz.prog 42 aBt:=(bW.struct (Ks:=[(gB [.i .i64]),(Q8 [.i .i64,.i .i64,.i .i64])]) Tryz.underlying42 (bA.cons (by kernel_rfl) xF (bA.cons (by kernel_rfl) aNt (bA.nil))) (by kernel_rfl)).mono (by
 rintro vs ⟨_,b0,rfl,⟨c0,rfl,w0⟩,_,b1,rfl,⟨c1,rfl,w1⟩,rfl⟩;refine ⟨⟨c0,c1⟩,?_,⟨w0,w1⟩⟩;simp only [List.append_nil]
 rfl)
structure dL.WF (c:dL):Prop where
 clock:aP.WF c.clock
 tree:oA.WF c.tree
def aBu:List SV->Prop:=fun vs=> ∃c:dL,vs=fE.enc c/\c.WF
theorem aNv:bW Tryz.prog 44 aBu:=(bW.struct (Ks:=[XM,aBt]) Tryz.underlying44 (bA.cons (by kernel_rfl) aNs (bA.cons (by kernel_rfl) aNu (bA.nil))) (by kernel_rfl)).mono (by
 rintro vs ⟨_,b0,rfl,⟨c0,rfl,w0⟩,_,b1,rfl,⟨c1,rfl,w1⟩,rfl⟩;refine ⟨⟨c0,c1⟩,?_,⟨w0,w1⟩⟩;simp only [List.append_nil]
 rfl)
theorem aPR:Tryz.prog.readableRec 44=true/\44<Tryz.prog.types.size:=⟨by kernel_rfl,of_decide_eq_true (by kernel_rfl)⟩
theorem aRt:Tryz.prog.readableRec 3=true/\3<Tryz.prog.types.size:=⟨by kernel_rfl,of_decide_eq_true (by kernel_rfl)⟩
theorem aRu:ownKnob Tryz.prog.godebug=none:=by kernel_rfl
theorem aPS:laidOutB Tryz.prog=true:=by kernel_rfl
set_option maxRecDepth 100000 in
theorem aHz (os:Os) (started:os.Started) (H:Type) (enc:TypeId×Value->H):
 ReturnsInHanded {} Tryz.checked os 3 .any (Rows.eeditTakesSpec.pre6 enc Tryz.prog Tryz.f3 Rows.eeditTakesRow.domain false) (Rows.eeditTakesSpec.post enc Tryz.prog Tryz.f3 false true false false):=by
 refine returnsInHanded_of_change (C:=Tryz.checked) aRu started (by kernel_rfl) Tryz.func3
  (ChangeSpec.witness6 (enc:=enc) (C:=Tryz.checked) false ⟨#[],#[.agg #[.int .i64 0,.int .i64 0,.slice none 0 0,.int .i64 0,.slice none 0 0,.slice none 0 0,.slice none 0 0,.slice none 0 0,.slice none 0 0,.slice none 0 0,.slice none 0 0,.int .i64 0,.slice none 0 0],.int .i64 0],[]⟩ 16 (by kernel_rfl) (by kernel_rfl) (by kernel_rfl) (by kernel_rfl)) ?_
 intro W base args ds gs before hval0 hW hcnd _;have hval: ∀(j:Nat) t v,Tryz.f3.params[j]? =some t->args[j]? =some v->Value.okWide Tryz.prog W .any base t v:=hval0;have hW':=hW;obtain ⟨p,q,hA0,hV,rfl,hfz,hnd⟩:=hW;have hA:DataW.TrodAll enc Tryz.prog W 0 (fun _=>true) true Tryz.f3.params.toList args.toList ds p:=hA0
 rw [Tryz.params3] at hA hval;obtain ⟨v0,vs0,d0,ds0,p0,q0,hargs,rfl,rfl,h0,r0⟩:=trodAll_cons hA;obtain ⟨v1,vs1,d1,ds1,p1,q1,rfl,rfl,rfl,h1,r1⟩:=trodAll_cons r0;obtain ⟨rfl,rfl,rfl⟩:=trodAll_nil r1;obtain rfl:args= #[v0,v1]:=by cases args;simp_all
 obtain ⟨rfl,rfl⟩:=trodVars_none hV;obtain ⟨_,g0,⟨a0,rfl,w0⟩,e0,k0⟩:=bW.argS aNv Tryz.underlying44 (hval 0 44 v0 rfl rfl) h0;obtain rfl:g0=(pvL (fE.enc a0)).getD []:=by rw [e0];rfl
 obtain ⟨a1,w1,k1⟩:=bW.argI Tryz.underlying3 (hval 1 3 v1 rfl rfl) h1;obtain ⟨n,s,z,hrun⟩:=aK.runA aPI aHS (a:=(a0,a1)) (BC a0 a1 (aBn.of w0.clock.now w0.clock.agenda.heap)) (ps:=[.agg ((pvL (fE.enc a0)).getD []),.int .i64 a1]) rfl rfl
 refine (X5 (P:=Tryz.prog) (prims:=fun _=>true) (TT.tabOK V4) (TT.primsOK V4) mL hrun (us:=[v0,v1]) (w:=W) (.cons _ _ _ _ k0 (.cons _ _ _ _ k1 (.nil)))).mono fun e W' ⟨he,hb⟩=>?_
 subst he;exact ⟨_,rfl,ZL (P:=Tryz.prog) (bt:=4) aPS rfl rfl (by kernel_rfl) (by
  rw [Tryz.params3];intro t ht;simp only [List.mem_cons,List.not_mem_nil,or_false] at ht;rcases ht with rfl|rfl
  · exact aPR
  · exact aRt) hW' rfl hb⟩
theorem eeditTakes_holds:Rows.EeditTakesSaid:=
 OpenClaim.holds_of_wide 3 Tryz.f3 rfl rfl rfl rfl rfl rfl rfl ⟨rfl,rfl,rfl,rfl,rfl⟩ rfl rfl rfl rfl rfl (by kernel_rfl) Tryz.func3 (by kernel_rfl)
  (of_decide_eq_true (by kernel_rfl)) (by unfold Func.isWrapper;first|(rw [if_pos (by decide+kernel)];kernel_rfl)|(rw [if_neg (by decide+kernel)];exact ⟨rfl,rfl⟩))
  (fun os started H enc _=>aHz os started H enc)
end Go.Proofs.YticklbjcnimggaaGreat
