/- The law HeaterBuilds returns true: its plain function gives true whatever comes in. -/
import Derived.Test.YticklbjcnimggaaGreatRows
import Derived.Test.YticklbjcnimggaaGreatBQS2
import Derived.Test.YticklbjcnimggaaGreatBQM4
import Derived.Test.YticklbjcnimggaaGreatBVm3
namespace Go.Proofs.YticklbjcnimggaaGreat
open Go.ChangeShapes Go.WideShapes Go.ChangeAt Go.RowKit Go.Vm
theorem xP:bZ Tryz.prog 3 (gE [.i .i64]):=bZ.int Tryz.underlying3
theorem YG:bZ Tryz.prog 2 (gE [.i .i64]):=bZ.int Tryz.underlying2
theorem aIq:bZ Tryz.prog 127 (gE [.i .i64,.i .i64,.i .i64]):=(bZ.struct (Ks:=[(gE [.i .i64]),(gE [.i .i64]),(gE [.i .i64])]) Tryz.underlying127 (bA.cons (by kernel_rfl) xP (bA.cons (by kernel_rfl) YG (bA.cons (by kernel_rfl) YG (bA.nil)))) (by kernel_rfl)).mono (fun vs h=>nN (rs:=[[.i .i64],[.i .i64],[.i .i64]]) h)
theorem aOz:bZ Tryz.prog 24 (R0 [.i .i64,.i .i64,.i .i64]):=bZ.slice (r:=[.i .i64,.i .i64,.i .i64]) Tryz.underlying24 aIq (by kernel_rfl) (by decide)
structure Field.WF (c:Field):Prop where
 points: ∀a∈c.points,RT.wf [.i .i64,.i .i64,.i .i64] a
def YH:List SV->Prop:=fun vs=> ∃c:Field,vs=bW.enc c/\c.WF
theorem aB7:bZ Tryz.prog 26 YH:=(bZ.struct (Ks:=[(R0 [.i .i64,.i .i64,.i .i64])]) Tryz.underlying26 (bA.cons (by kernel_rfl) aOz (bA.nil)) (by kernel_rfl)).mono (by
 rintro vs ⟨_,b0,rfl,⟨c0,rfl,w0⟩,rfl⟩;refine ⟨⟨c0⟩,?_,⟨w0⟩⟩;simp only [List.append_nil]
 rfl)
theorem V6:bZ Tryz.prog 23 (gE [.i .i64,.i .i64]):=(bZ.struct (Ks:=[(gE [.i .i64]),(gE [.i .i64])]) Tryz.underlying23 (bA.cons (by kernel_rfl) YG (bA.cons (by kernel_rfl) YG (bA.nil))) (by kernel_rfl)).mono (fun vs h=>nN (rs:=[[.i .i64],[.i .i64]]) h)
theorem aOA:bZ Tryz.prog 95 (gE [.i .i64,.i .i64]):=(bZ.struct (Ks:=[(gE [.i .i64]),(gE [.i .i64])]) Tryz.underlying95 (bA.cons (by kernel_rfl) xP (bA.cons (by kernel_rfl) xP (bA.nil))) (by kernel_rfl)).mono (fun vs h=>nN (rs:=[[.i .i64],[.i .i64]]) h)
theorem aIr:bZ Tryz.prog 167 (gE [.i .i64,.i .i64,.i .i64]):=(bZ.struct (Ks:=[(gE [.i .i64]),(gE [.i .i64,.i .i64])]) Tryz.underlying167 (bA.cons (by kernel_rfl) xP (bA.cons (by kernel_rfl) aOA (bA.nil))) (by kernel_rfl)).mono (fun vs h=>nN (rs:=[[.i .i64],[.i .i64,.i .i64]]) h)
theorem aOB:bZ Tryz.prog 27 (R0 [.i .i64,.i .i64,.i .i64]):=bZ.slice (r:=[.i .i64,.i .i64,.i .i64]) Tryz.underlying27 aIr (by kernel_rfl) (by decide)
structure aW.WF (c:aW):Prop where
 next_:RT.wf [.i .i64] c.next_
 list: ∀a∈c.list,RT.wf [.i .i64,.i .i64,.i .i64] a
def YI:List SV->Prop:=fun vs=> ∃c:aW,vs=gH.enc c/\c.WF
theorem aOC:bZ Tryz.prog 29 YI:=(bZ.struct (Ks:=[(gE [.i .i64]),(R0 [.i .i64,.i .i64,.i .i64])]) Tryz.underlying29 (bA.cons (by kernel_rfl) xP (bA.cons (by kernel_rfl) aOB (bA.nil))) (by kernel_rfl)).mono (by
 rintro vs ⟨_,b0,rfl,⟨c0,rfl,w0⟩,_,b1,rfl,⟨c1,rfl,w1⟩,rfl⟩;refine ⟨⟨c0,c1⟩,?_,⟨w0,w1⟩⟩;simp only [List.append_nil]
 rfl)
theorem V7:bZ Tryz.prog 30 (R0 [.i .i64]):=bZ.slice (r:=[.i .i64]) Tryz.underlying30 xP (by kernel_rfl) (by decide)
theorem aQ4:bZ Tryz.prog 4 (gE [.b]):=bZ.bool Tryz.underlying4
theorem aOD:bZ Tryz.prog 31 (R0 [.b]):=bZ.slice (r:=[.b]) Tryz.underlying31 aQ4 (by kernel_rfl) (by decide)
structure aR.WF (c:aR):Prop where
 uses: ∀a∈c.uses,RT.wf [.i .i64] a
 used: ∀a∈c.used,RT.wf [.b] a
 free: ∀a∈c.free,RT.wf [.i .i64] a
def YJ:List SV->Prop:=fun vs=> ∃c:aR,vs=fK.enc c/\c.WF
theorem aOE:bZ Tryz.prog 33 YJ:=(bZ.struct (Ks:=[(R0 [.i .i64]),(R0 [.b]),(R0 [.i .i64])]) Tryz.underlying33 (bA.cons (by kernel_rfl) V7 (bA.cons (by kernel_rfl) aOD (bA.cons (by kernel_rfl) V7 (bA.nil)))) (by kernel_rfl)).mono (by
 rintro vs ⟨_,b0,rfl,⟨c0,rfl,w0⟩,_,b1,rfl,⟨c1,rfl,w1⟩,_,b2,rfl,⟨c2,rfl,w2⟩,rfl⟩;refine ⟨⟨c0,c1,c2⟩,?_,⟨w0,w1,w2⟩⟩;simp only [List.append_nil]
 rfl)
theorem aB8:bZ Tryz.prog 91 (gE [.i .i64,.i .i64]):=(bZ.struct (Ks:=[(gE [.i .i64]),(gE [.i .i64])]) Tryz.underlying91 (bA.cons (by kernel_rfl) xP (bA.cons (by kernel_rfl) xP (bA.nil))) (by kernel_rfl)).mono (fun vs h=>nN (rs:=[[.i .i64],[.i .i64]]) h)
theorem aOF:bZ Tryz.prog 93 (gE [.i .i64,.i .i64,.i .i64,.i .i64,.i .i64]):=(bZ.struct (Ks:=[(gE [.i .i64,.i .i64]),(gE [.i .i64]),(gE [.i .i64,.i .i64])]) Tryz.underlying93 (bA.cons (by kernel_rfl) V6 (bA.cons (by kernel_rfl) xP (bA.cons (by kernel_rfl) aB8 (bA.nil)))) (by kernel_rfl)).mono (fun vs h=>nN (rs:=[[.i .i64,.i .i64],[.i .i64],[.i .i64,.i .i64]]) h)
theorem aOG:bZ Tryz.prog 34 (R0 [.i .i64,.i .i64,.i .i64,.i .i64,.i .i64]):=bZ.slice (r:=[.i .i64,.i .i64,.i .i64,.i .i64,.i .i64]) Tryz.underlying34 aOF (by kernel_rfl) (by decide)
structure aI.WF (c:aI):Prop where
 slots:aR.WF c.slots
 heap: ∀a∈c.heap,RT.wf [.i .i64,.i .i64,.i .i64,.i .i64,.i .i64] a
 where_: ∀a∈c.where_,RT.wf [.i .i64] a
def TN:List SV->Prop:=fun vs=> ∃c:aI,vs=cS.enc c/\c.WF
theorem aOH:bZ Tryz.prog 36 TN:=(bZ.struct (Ks:=[YJ,(R0 [.i .i64,.i .i64,.i .i64,.i .i64,.i .i64]),(R0 [.i .i64])]) Tryz.underlying36 (bA.cons (by kernel_rfl) aOE (bA.cons (by kernel_rfl) aOG (bA.cons (by kernel_rfl) V7 (bA.nil)))) (by kernel_rfl)).mono (by
 rintro vs ⟨_,b0,rfl,⟨c0,rfl,w0⟩,_,b1,rfl,⟨c1,rfl,w1⟩,_,b2,rfl,⟨c2,rfl,w2⟩,rfl⟩;refine ⟨⟨c0,c1,c2⟩,?_,⟨w0,w1,w2⟩⟩;simp only [List.append_nil]
 rfl)
theorem aIs:bZ Tryz.prog 137 (gE [.i .i64,.i .i64,.i .i64]):=(bZ.struct (Ks:=[(gE [.i .i64]),(gE [.i .i64,.i .i64])]) Tryz.underlying137 (bA.cons (by kernel_rfl) xP (bA.cons (by kernel_rfl) aB8 (bA.nil))) (by kernel_rfl)).mono (fun vs h=>nN (rs:=[[.i .i64],[.i .i64,.i .i64]]) h)
theorem aOI:bZ Tryz.prog 37 (R0 [.i .i64,.i .i64,.i .i64]):=bZ.slice (r:=[.i .i64,.i .i64,.i .i64]) Tryz.underlying37 aIs (by kernel_rfl) (by decide)
structure aQ.WF (c:aQ):Prop where
 now:RT.wf [.i .i64,.i .i64] c.now
 field:Field.WF c.field
 certs:aW.WF c.certs
 agenda:aI.WF c.agenda
 due: ∀a∈c.due,RT.wf [.i .i64,.i .i64,.i .i64] a
def YK:List SV->Prop:=fun vs=> ∃c:aQ,vs=bN.enc c/\c.WF
theorem aOJ:bZ Tryz.prog 39 YK:=(bZ.struct (Ks:=[(gE [.i .i64,.i .i64]),YH,YI,TN,(R0 [.i .i64,.i .i64,.i .i64])]) Tryz.underlying39 (bA.cons (by kernel_rfl) V6 (bA.cons (by kernel_rfl) aB7 (bA.cons (by kernel_rfl) aOC (bA.cons (by kernel_rfl) aOH (bA.cons (by kernel_rfl) aOI (bA.nil)))))) (by kernel_rfl)).mono (by
 rintro vs ⟨_,b0,rfl,⟨c0,rfl,w0⟩,_,b1,rfl,⟨c1,rfl,w1⟩,_,b2,rfl,⟨c2,rfl,w2⟩,_,b3,rfl,⟨c3,rfl,w3⟩,_,b4,rfl,⟨c4,rfl,w4⟩,rfl⟩;refine ⟨⟨c0,c1,c2,c3,c4⟩,?_,⟨w0,w1,w2,w3,w4⟩⟩;simp only [List.append_nil]
 rfl)
theorem aIt:bZ Tryz.prog 110 (gE [.i .i64,.i .i64,.i .i64]):=(bZ.struct (Ks:=[(gE [.i .i64]),(gE [.i .i64]),(gE [.i .i64])]) Tryz.underlying110 (bA.cons (by kernel_rfl) xP (bA.cons (by kernel_rfl) xP (bA.cons (by kernel_rfl) xP (bA.nil)))) (by kernel_rfl)).mono (fun vs h=>nN (rs:=[[.i .i64],[.i .i64],[.i .i64]]) h)
theorem aOK:bZ Tryz.prog 40 (R0 [.i .i64,.i .i64,.i .i64]):=bZ.slice (r:=[.i .i64,.i .i64,.i .i64]) Tryz.underlying40 aIt (by kernel_rfl) (by decide)
structure rO.WF (c:rO):Prop where
 root:RT.wf [.i .i64] c.root
 nodes: ∀a∈c.nodes,RT.wf [.i .i64,.i .i64,.i .i64] a
def aB9:List SV->Prop:=fun vs=> ∃c:rO,vs=xW.enc c/\c.WF
theorem aOL:bZ Tryz.prog 42 aB9:=(bZ.struct (Ks:=[(gE [.i .i64]),(R0 [.i .i64,.i .i64,.i .i64])]) Tryz.underlying42 (bA.cons (by kernel_rfl) xP (bA.cons (by kernel_rfl) aOK (bA.nil))) (by kernel_rfl)).mono (by
 rintro vs ⟨_,b0,rfl,⟨c0,rfl,w0⟩,_,b1,rfl,⟨c1,rfl,w1⟩,rfl⟩;refine ⟨⟨c0,c1⟩,?_,⟨w0,w1⟩⟩;simp only [List.append_nil]
 rfl)
structure dX.WF (c:dX):Prop where
 clock:aQ.WF c.clock
 tree:rO.WF c.tree
def aCa:List SV->Prop:=fun vs=> ∃c:dX,vs=gL.enc c/\c.WF
theorem aOM:bZ Tryz.prog 44 aCa:=(bZ.struct (Ks:=[YK,aB9]) Tryz.underlying44 (bA.cons (by kernel_rfl) aOJ (bA.cons (by kernel_rfl) aOL (bA.nil))) (by kernel_rfl)).mono (by
 rintro vs ⟨_,b0,rfl,⟨c0,rfl,w0⟩,_,b1,rfl,⟨c1,rfl,w1⟩,rfl⟩;refine ⟨⟨c0,c1⟩,?_,⟨w0,w1⟩⟩;simp only [List.append_nil]
 rfl)
theorem aQ5:Tryz.prog.readableRec 26=true/\26<Tryz.prog.types.size:=⟨by kernel_rfl,of_decide_eq_true (by kernel_rfl)⟩
theorem aQ6:Tryz.prog.readableRec 23=true/\23<Tryz.prog.types.size:=⟨by kernel_rfl,of_decide_eq_true (by kernel_rfl)⟩
theorem aQ7:Tryz.prog.readableRec 44=true/\44<Tryz.prog.types.size:=⟨by kernel_rfl,of_decide_eq_true (by kernel_rfl)⟩
theorem aSV:ownKnob Tryz.prog.godebug=none:=by kernel_rfl
theorem aQ8:laidOutB Tryz.prog=true:=by kernel_rfl
set_option maxRecDepth 100000 in
theorem aIu (os:Os) (started:os.Started) (H:Type) (enc:TypeId×Value->H):
 ReturnsInHanded {} Tryz.checked os 5 .any (Rows.heaterBuildsSpec.pre6 enc Tryz.prog Tryz.f5 Rows.heaterBuildsRow.domain false) (Rows.heaterBuildsSpec.post enc Tryz.prog Tryz.f5 false true false false):=by
 refine returnsInHanded_of_change (C:=Tryz.checked) aSV started (by kernel_rfl) Tryz.func5
  (ChangeSpec.witness6 (enc:=enc) (C:=Tryz.checked) false ⟨#[],#[.agg #[.slice none 0 0],.agg #[.int .i64 0,.int .i64 0],.agg #[.int .i64 0,.int .i64 0,.slice none 0 0,.int .i64 0,.slice none 0 0,.slice none 0 0,.slice none 0 0,.slice none 0 0,.slice none 0 0,.slice none 0 0,.slice none 0 0,.int .i64 0,.slice none 0 0]],[]⟩ 16 (by kernel_rfl) (by kernel_rfl) (by kernel_rfl) (by kernel_rfl)) ?_
 intro W base args ds gs before hval0 hW hcnd _;have hval: ∀(j:Nat) t v,Tryz.f5.params[j]? =some t->args[j]? =some v->Value.okWide Tryz.prog W .any base t v:=hval0;have hW':=hW;obtain ⟨p,q,hA0,hV,rfl,hfz,hnd⟩:=hW;have hA:DataW.TrodAll enc Tryz.prog W 0 (fun _=>true) true Tryz.f5.params.toList args.toList ds p:=hA0
 rw [Tryz.params5] at hA hval;obtain ⟨v0,vs0,d0,ds0,p0,q0,hargs,rfl,rfl,h0,r0⟩:=trodAll_cons hA;obtain ⟨v1,vs1,d1,ds1,p1,q1,rfl,rfl,rfl,h1,r1⟩:=trodAll_cons r0;obtain ⟨v2,vs2,d2,ds2,p2,q2,rfl,rfl,rfl,h2,r2⟩:=trodAll_cons r1;obtain ⟨rfl,rfl,rfl⟩:=trodAll_nil r2;obtain rfl:args= #[v0,v1,v2]:=by cases args;simp_all
 obtain ⟨rfl,rfl⟩:=trodVars_none hV;obtain ⟨_,g0,⟨a0,rfl,w0⟩,e0,k0⟩:=bZ.argS aB7 Tryz.underlying26 (hval 0 26 v0 rfl rfl) h0;obtain rfl:g0=(pvL (bW.enc a0)).getD []:=by rw [e0];rfl
 obtain ⟨_,g1,⟨a1,rfl,w1⟩,e1,k1⟩:=bZ.argS V6 Tryz.underlying23 (hval 1 23 v1 rfl rfl) h1;obtain rfl:g1=(pvL (RT.sv [.i .i64,.i .i64] a1)).getD []:=by rw [e1];rfl
 obtain ⟨_,g2,⟨a2,rfl,w2⟩,e2,k2⟩:=bZ.argS aOM Tryz.underlying44 (hval 2 44 v2 rfl rfl) h2;obtain rfl:g2=(pvL (gL.enc a2)).getD []:=by rw [e2];rfl
 obtain ⟨n,s,z,hrun⟩:=aJ.runA aQX aIR (a:=(a0,a1,a2)) (zJ a0 a1 a2 ⟨HS w1.1,HS w1.2⟩ (aIe.of w2.clock.now w2.clock.agenda.heap)) (ps:=[.agg ((pvL (bW.enc a0)).getD []),.agg ((pvL (RT.sv [.i .i64,.i .i64] a1)).getD []),.agg ((pvL (gL.enc a2)).getD [])]) rfl rfl
 refine (Y3 (P:=Tryz.prog) (prims:=fun _=>true) (TT.tabOK W6) (TT.primsOK W6) mT hrun (us:=[v0,v1,v2]) (w:=W) (.cons _ _ _ _ k0 (.cons _ _ _ _ k1 (.cons _ _ _ _ k2 (.nil))))).mono fun e W' ⟨he,hb⟩=>?_
 subst he;exact ⟨_,rfl,aAt (P:=Tryz.prog) (bt:=4) aQ8 rfl rfl (by kernel_rfl) (by
  rw [Tryz.params5];intro t ht;simp only [List.mem_cons,List.not_mem_nil,or_false] at ht;rcases ht with rfl|rfl|rfl
  · exact aQ5
  · exact aQ6
  · exact aQ7) hW' rfl hb⟩
theorem heaterBuilds_holds:Rows.HeaterBuildsSaid:=
 OpenClaim.holds_of_wide 5 Tryz.f5 rfl rfl rfl rfl rfl rfl rfl ⟨rfl,rfl,rfl,rfl,rfl⟩ rfl rfl rfl rfl rfl (by kernel_rfl) Tryz.func5 (by kernel_rfl)
  (of_decide_eq_true (by kernel_rfl)) (by unfold Func.isWrapper;first|(rw [if_pos (by decide+kernel)];kernel_rfl)|(rw [if_neg (by decide+kernel)];exact ⟨rfl,rfl⟩))
  (fun os started H enc _=>aIu os started H enc)
end Go.Proofs.YticklbjcnimggaaGreat
