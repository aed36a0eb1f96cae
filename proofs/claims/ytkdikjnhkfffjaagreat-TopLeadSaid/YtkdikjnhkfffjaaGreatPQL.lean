/- The law TopLead returns true: its plain function gives true whatever comes in. -/
import Derived.Test.YtkdikjnhkfffjaaGreatRows
import Derived.Test.YtkdikjnhkfffjaaGreatPQS3
import Derived.Test.YtkdikjnhkfffjaaGreatPQM5
import Derived.Test.YtkdikjnhkfffjaaGreatPVm3
open Bool renaming true->EQ
namespace Go.Proofs.YtkdikjnhkfffjaaGreat
open Go.ChangeShapes Go.WideShapes Go.ChangeAt Go.RowKit Go.Vm
theorem alX:gW Tryz.prog 3 (ss ki):=gW.int Tryz.underlying3
theorem VK:gW Tryz.prog 2 (ss ki):=gW.int Tryz.underlying2
theorem abo:gW Tryz.prog 28 (ss fw):= .st Tryz.underlying28 (.co alX (.co VK (.co VK .nil))) λvs h=>Hb (rs:=[ki,ki,ki]) h
theorem ahG:gW Tryz.prog 22 (KSl fw):= .sll Tryz.underlying22 abo
def ahH(c:Field):Prop:= ∀a∈c.am,RT.wf fw a
theorem ahI:gW Tryz.prog 24 (KC bB ahH):= .st Tryz.underlying24 (.cl ahG .nil) (KC.SU KC.one λ_ w=>w)
theorem Ut:gW Tryz.prog 26 (ss gy):= .st Tryz.underlying26 (.co VK (.co VK .nil)) λvs h=>Hb (rs:=[ki,ki]) h
theorem alY:Tryz.prog.readableRec 24=EQ/\24<Tryz.prog.types.size:=⟨by kernel_rfl,of_decide_eq_true (by kernel_rfl)⟩
theorem abp:Tryz.prog.readableRec 26=EQ/\26<Tryz.prog.types.size:=⟨by kernel_rfl,of_decide_eq_true (by kernel_rfl)⟩
theorem alZ:Tryz.prog.readableRec 28=EQ/\28<Tryz.prog.types.size:=⟨by kernel_rfl,of_decide_eq_true (by kernel_rfl)⟩
theorem asO:Tryz.prog.readableRec 3=EQ/\3<Tryz.prog.types.size:=⟨by kernel_rfl,of_decide_eq_true (by kernel_rfl)⟩
theorem asP:ownKnob Tryz.prog.godebug=none:=by kernel_rfl
theorem asQ{a b:Bool}(h:a=EQ)(k:b=EQ):(a&&b)=EQ:=by rw[h,k];rfl
theorem Qk1:laidOutB Tryz.prog=EQ:=by decide+kernel
set_option maxHeartbeats 2000000 in
set_option maxRecDepth 100000 in
theorem ad1:joinedFacts Tryz.prog 3 Tryz.f3 Rows.topLeadSpec Rows.topLeadRow=EQ:=by
 unfold joinedFacts
 repeat' with_reducible apply asQ
 all_goals decide+kernel
set_option maxRecDepth 100000 in
theorem ad2(os:Os)(started:os.Started)(H:Type)(enc:TypeId×Value->H):
 ReturnsInHanded {} Tryz.checked os 3 .any (Rows.topLeadSpec.pre6 enc Tryz.prog Tryz.f3 Rows.topLeadRow.domain false) (Rows.topLeadSpec.post enc Tryz.prog Tryz.f3 false EQ false false):=by
 refine returnsInHanded_of_change (C:=Tryz.checked) asP started (by kernel_rfl) Tryz.func3
  (ChangeSpec.witness6 (enc:=enc) (C:=Tryz.checked) false ⟨#[],#[.agg #[.slice none 0 0],.agg #[.int .i64 0,.int .i64 0],.agg #[.int .i64 0,.int .i64 0],.agg #[.int .i64 0,.int .i64 0],.agg #[.int .i64 0,.int .i64 0,.int .i64 0],.int .i64 0],[]⟩ 16 (by kernel_rfl) (by kernel_rfl) (by kernel_rfl) (by kernel_rfl)) ?_
 intro W r8 args ds gs before al0 hW ajd _;have Ou: ∀(j:Nat) t v,Tryz.f3.params[j]? =some t->args[j]? =some v->Value.okWide Tryz.prog W .any r8 t v:=al0;have hW':=hW;obtain⟨p,q,hA0,hV,rfl,X9,LN⟩:=hW;have hA:DataW.TrodAll enc Tryz.prog W 0 (λ_=>EQ) EQ Tryz.f3.params.toList args.toList ds p:=hA0;rw[Tryz.params3]at hA Ou;obtain⟨v0,vs0,d0,ds0,p0,q0,qW,rfl,rfl,h0,r0⟩:=trodAll_cons hA;obtain⟨v1,vs1,d1,ds1,p1,q1,rfl,rfl,rfl,h1,r1⟩:=trodAll_cons r0;obtain⟨v2,vs2,d2,ds2,p2,q2,rfl,rfl,rfl,h2,r2⟩:=trodAll_cons r1;obtain⟨v3,vs3,d3,ds3,p3,q3,rfl,rfl,rfl,h3,r3⟩:=trodAll_cons r2;obtain⟨v4,vs4,d4,ds4,p4,q4,rfl,rfl,rfl,h4,r4⟩:=trodAll_cons r3;obtain⟨v5,vs5,d5,ds5,p5,q5,rfl,rfl,rfl,h5,r5⟩:=trodAll_cons r4;obtain⟨rfl,rfl,rfl⟩:=trodAll_nil r5;obtain rfl:args= #[v0,v1,v2,v3,v4,v5]:=by cases args;simp_all
 obtain⟨rfl,rfl⟩:=trodVars_none hV;obtain⟨_,g0,⟨a0,rfl,w0⟩,e0,k0⟩:=gW.ZD ahI Tryz.underlying24 (Ou 0 24 v0 rfl rfl) h0;obtain rfl:g0=(tN (bB.enc a0)).getD []:=by rw[e0];rfl
 obtain⟨_,g1,⟨a1,rfl,w1⟩,e1,k1⟩:=gW.ZD Ut Tryz.underlying26 (Ou 1 26 v1 rfl rfl) h1;obtain rfl:g1=(tN (RT.sv [.i .i64,.i .i64] a1)).getD []:=by rw[e1];rfl
 obtain⟨_,g2,⟨a2,rfl,w2⟩,e2,k2⟩:=gW.ZD Ut Tryz.underlying26 (Ou 2 26 v2 rfl rfl) h2;obtain rfl:g2=(tN (RT.sv [.i .i64,.i .i64] a2)).getD []:=by rw[e2];rfl
 obtain⟨_,g3,⟨a3,rfl,w3⟩,e3,k3⟩:=gW.ZD Ut Tryz.underlying26 (Ou 3 26 v3 rfl rfl) h3;obtain rfl:g3=(tN (RT.sv [.i .i64,.i .i64] a3)).getD []:=by rw[e3];rfl
 obtain⟨_,g4,⟨a4,rfl,w4⟩,e4,k4⟩:=gW.ZD abo Tryz.underlying28 (Ou 4 28 v4 rfl rfl) h4;obtain rfl:g4=(tN (RT.sv [.i .i64,.i .i64,.i .i64] a4)).getD []:=by rw[e4];rfl
 obtain⟨a5,w5,k5⟩:=gW.aoa Tryz.underlying3 (Ou 5 3 v5 rfl rfl) h5;obtain⟨n,s,z,dy⟩:=jJ.aob c3.ok rfl (a:=(a0,a1,a2,a3,a4,a5)) (HK a0 a1 a2 a3 a4 a5 ⟨wf_i64 w1.1,wf_i64 w1.2⟩ ⟨wf_i64 w2.1,wf_i64 w2.2⟩ ⟨wf_i64 w3.1,wf_i64 w3.2⟩) (ps:=[.agg ((tN (bB.enc a0)).getD []),.agg ((tN (RT.sv [.i .i64,.i .i64] a1)).getD []),.agg ((tN (RT.sv [.i .i64,.i .i64] a2)).getD []),.agg ((tN (RT.sv [.i .i64,.i .i64] a3)).getD []),.agg ((tN (RT.sv [.i .i64,.i .i64,.i .i64] a4)).getD []),.int .i64 a5]) rfl rfl;refine(Wl (P:=Tryz.prog) (prims:=λ_=>EQ) (TT.ai5 Vd) (TT.ab8 Vd) oS dy (us:=[v0,v1,v2,v3,v4,v5]) (w:=W) (.cons _ _ _ _ k0 (.cons _ _ _ _ k1 (.cons _ _ _ _ k2 (.cons _ _ _ _ k3 (.cons _ _ _ _ k4 (.cons _ _ _ _ k5 (.nil)))))))).mono λe W' ⟨he,hb⟩=>?_
 subst he;exact⟨_,rfl,YU (P:=Tryz.prog) (bt:=4) Qk1 rfl rfl (by kernel_rfl) (by
  rw[Tryz.params3];intro t ht;simp only[List.mem_cons,List.not_mem_nil,or_false]at ht;rcases ht with rfl|rfl|rfl|rfl|rfl|rfl
  ·exact alY
  ·exact abp
  ·exact abp
  ·exact abp
  ·exact alZ
  exact asO) hW' rfl hb⟩
theorem topLead_holds:Rows.TopLeadSaid:=
 OpenClaim.holds_of_wide 3 Tryz.f3 rfl rfl rfl rfl rfl rfl rfl ⟨rfl,rfl,rfl,rfl,rfl⟩ rfl rfl rfl rfl rfl (by kernel_rfl) Tryz.func3 ad1
  (of_decide_eq_true (by kernel_rfl)) (by unfold Func.isWrapper;first|(rw[AC (by decide+kernel)];kernel_rfl)|(rw[Do (by decide+kernel)];exact⟨rfl,rfl⟩))
  (λos started H enc _=>ad2 os started H enc)
end Go.Proofs.YtkdikjnhkfffjaaGreat
