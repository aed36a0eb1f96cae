/- The law StretchParts returns true: its plain function gives true whatever comes in. -/
import Derived.Test.YthljiplggdanpaaGreatRows
import Derived.Test.YthljiplggdanpaaGreatPQS3
import Derived.Test.YthljiplggdanpaaGreatPQM5
import Derived.Test.YthljiplggdanpaaGreatPVm3
open Option renaming none->EQ
open Bool renaming true->If,false->IR
namespace Go.Proofs.YthljiplggdanpaaGreat
open Go.ChangeShapes Go.WideShapes Go.ChangeAt Go.RowKit Go.Vm
theorem aeY:cD Tryz.prog 5 (nD [.i .u8]):=cD.int Tryz.underlying5
theorem Vo:cD Tryz.prog 2 (nD ki):=cD.int Tryz.underlying2
theorem T1:cD Tryz.prog 23 (nD fQ):= .st Tryz.underlying23 (.co Vo (.co Vo .nil)) fun vs h=>og (rs:=[ki,ki]) h
theorem xV:cD Tryz.prog 3 (nD ki):=cD.int Tryz.underlying3
theorem aa7:cD Tryz.prog 93 (nD dB):= .st Tryz.underlying93 (.co xV (.co Vo (.co Vo .nil))) fun vs h=>og (rs:=[ki,ki,ki]) h
theorem ahx:cD Tryz.prog 24 (XI dB):= .sll Tryz.underlying24 aa7
theorem ahy:cD Tryz.prog 26 (KC bw fun _=>True):= .st Tryz.underlying26 (.cl ahx .nil) (KC.H4 KC.one fun _ _=>trivial)
theorem adM:cD Tryz.prog 148 (nD fQ):= .st Tryz.underlying148 (.co xV (.co xV .nil)) fun vs h=>og (rs:=[ki,ki]) h
theorem adN:cD Tryz.prog 150 (nD dB):= .st Tryz.underlying150 (.co xV (.co adM .nil)) fun vs h=>og (rs:=[ki,fQ]) h
theorem ahz:cD Tryz.prog 27 (XI dB):= .sll Tryz.underlying27 adN
theorem ahA:cD Tryz.prog 29 (KC pE fun _=>True):= .st Tryz.underlying29 (.ci xV (.cl ahz .nil)) (KC.H4 (KC.cons (KC.one)) fun _ _=>trivial)
theorem Fg:cD Tryz.prog 30 (XI ki):= .sll Tryz.underlying30 xV
theorem ami:cD Tryz.prog 4 (nD kb):=cD.bool Tryz.underlying4
theorem ahB:cD Tryz.prog 31 (XI kb):= .sll Tryz.underlying31 ami
theorem ahC:cD Tryz.prog 33 (KC pD fun _=>True):= .st Tryz.underlying33 (.cl Fg (.cl ahB (.cl Fg .nil))) (KC.H4 (KC.cons (KC.cons (KC.one))) fun _ _=>trivial)
theorem Vp:cD Tryz.prog 138 (nD fQ):= .st Tryz.underlying138 (.co xV (.co xV .nil)) fun vs h=>og (rs:=[ki,ki]) h
theorem adO:cD Tryz.prog 154 (nD oM):= .st Tryz.underlying154 (.co T1 (.co xV (.co Vp .nil))) fun vs h=>og (rs:=[fQ,ki,fQ]) h
theorem ahD:cD Tryz.prog 34 (XI oM):= .sll Tryz.underlying34 adO
def Vq (c:aV):Prop:= ∀a∈c.bv,RT.wf oM a
theorem ahE:cD Tryz.prog 36 (KC gX Vq):= .st Tryz.underlying36 (.co ahC (.cl ahD (.cl Fg .nil))) (KC.H4 (KC.cons (KC.cons (KC.one))) fun _ w=>w.2.1)
theorem adP:cD Tryz.prog 140 (nD dB):= .st Tryz.underlying140 (.co xV (.co Vp .nil)) fun vs h=>og (rs:=[ki,fQ]) h
theorem ahF:cD Tryz.prog 37 (XI dB):= .sll Tryz.underlying37 adP
def Lv (c:aH):Prop:=RT.wf fQ c.ii/\Vq c.ae
theorem Pk:cD Tryz.prog 39 (KC b9 Lv):= .st Tryz.underlying39 (.cr T1 (.co ahy (.co ahA (.co ahE (.cl ahF .nil))))) (KC.H4 (KC.cons (KC.cons (KC.cons (KC.cons (KC.one))))) fun _ w=>⟨w.1,w.2.2.2.1⟩)
def aa8 (c:bE):Prop:=Lv c.kw
theorem ahG:cD Tryz.prog 41 (KC kV aa8):= .st Tryz.underlying41 (.co Pk (.cl Fg .nil)) (KC.H4 (KC.cons (KC.one)) fun _ w=>w.1)
theorem ahH:cD Tryz.prog 43 (KC iD fun _=>True):= .st Tryz.underlying43 (.cl Fg (.cl Fg .nil)) (KC.H4 (KC.cons (KC.one)) fun _ _=>trivial)
def Vr (c:bN):Prop:=Lv c.kw
theorem ahI:cD Tryz.prog 45 (KC iP Vr):= .st Tryz.underlying45 (.co Pk (.co ahH .nil)) (KC.H4 (KC.cons (KC.one)) fun _ w=>w.1)
theorem adQ:cD Tryz.prog 142 (nD dB):= .st Tryz.underlying142 (.co xV (.co xV (.co xV .nil))) fun vs h=>og (rs:=[ki,ki,ki]) h
theorem ahJ:cD Tryz.prog 46 (XI dB):= .sll Tryz.underlying46 adQ
theorem ahK:cD Tryz.prog 48 (KC xx fun _=>True):= .st Tryz.underlying48 (.ci xV (.cl ahJ .nil)) (KC.H4 (KC.cons (KC.one)) fun _ _=>trivial)
def Vs (c:bC):Prop:=Lv c.kw
theorem ahL:cD Tryz.prog 50 (KC fF Vs):= .st Tryz.underlying50 (.co Pk (.co ahK .nil)) (KC.H4 (KC.cons (KC.one)) fun _ w=>w.1)
def Vt (c:bH):Prop:=Lv c.kw
theorem ahM:cD Tryz.prog 52 (KC fG Vt):= .st Tryz.underlying52 (.co Pk (.cl Fg .nil)) (KC.H4 (KC.cons (KC.one)) fun _ w=>w.1)
def adR (c:Choice):Prop:=aa8 c.bv/\Vr c.gC/\Vs c.dU/\Vt c.cH
theorem ahN:cD Tryz.prog 54 (KC dN adR):= .st Tryz.underlying54 (.ci aeY (.co ahG (.co ahI (.co ahL (.co ahM .nil))))) (KC.H4 (KC.cons (KC.cons (KC.cons (KC.cons (KC.one))))) fun _ w=>⟨w.2.1,w.2.2.1,w.2.2.2.1,w.2.2.2.2⟩)
theorem ahO:cD Tryz.prog 95 (nD CB):= .st Tryz.underlying95 (.co aeY (.co aa7 (.co xV (.co T1 .nil)))) fun vs h=>og (rs:=[[.i .u8],dB,ki,fQ]) h
theorem ahQ:cD Tryz.prog 55 (XI CB):= .sll Tryz.underlying55 ahO
theorem amj:Tryz.prog.readableRec 54=If/\54<Tryz.prog.types.size:=⟨by kernel_rfl,of_decide_eq_true (by kernel_rfl)⟩
theorem amk:Tryz.prog.readableRec 55=If/\55<Tryz.prog.types.size:=⟨by kernel_rfl,of_decide_eq_true (by kernel_rfl)⟩
theorem att:Tryz.prog.readableRec 3=If/\3<Tryz.prog.types.size:=⟨by kernel_rfl,of_decide_eq_true (by kernel_rfl)⟩
theorem atu:ownKnob Tryz.prog.godebug=EQ:=by kernel_rfl
theorem atv {a b:Bool} (h:a=If) (k:b=If):(a&&b)=If:=by rw [h,k];rfl
theorem Qk1:laidOutB Tryz.prog=If:=by decide+kernel
set_option maxHeartbeats 2000000 in
set_option maxRecDepth 100000 in
theorem adS:joinedFacts Tryz.prog 3 Tryz.f3 Rows.stretchPartsSpec Rows.stretchPartsRow=If:=by
 unfold joinedFacts
 repeat' with_reducible apply atv
 all_goals decide+kernel
set_option maxRecDepth 100000 in
theorem adT (os:Os) (started:os.Started) (H:Type) (enc:TypeId×Value->H):
 ReturnsInHanded {} Tryz.checked os 3 .any (Rows.stretchPartsSpec.pre6 enc Tryz.prog Tryz.f3 Rows.stretchPartsRow.domain IR) (Rows.stretchPartsSpec.post enc Tryz.prog Tryz.f3 IR If IR IR):=by
 refine returnsInHanded_of_change (C:=Tryz.checked) atu started (by kernel_rfl) Tryz.func3
  (ChangeSpec.witness6 (enc:=enc) (C:=Tryz.checked) IR ⟨#[],#[.agg #[.int .u8 0,.int .i64 0,.int .i64 0,.slice EQ 0 0,.int .i64 0,.slice EQ 0 0,.slice EQ 0 0,.slice EQ 0 0,.slice EQ 0 0,.slice EQ 0 0,.slice EQ 0 0,.slice EQ 0 0,.slice EQ 0 0,.int .i64 0,.int .i64 0,.slice EQ 0 0,.int .i64 0,.slice EQ 0 0,.slice EQ 0 0,.slice EQ 0 0,.slice EQ 0 0,.slice EQ 0 0,.slice EQ 0 0,.slice EQ 0 0,.slice EQ 0 0,.slice EQ 0 0,.int .i64 0,.int .i64 0,.slice EQ 0 0,.int .i64 0,.slice EQ 0 0,.slice EQ 0 0,.slice EQ 0 0,.slice EQ 0 0,.slice EQ 0 0,.slice EQ 0 0,.slice EQ 0 0,.int .i64 0,.slice EQ 0 0,.int .i64 0,.int .i64 0,.slice EQ 0 0,.int .i64 0,.slice EQ 0 0,.slice EQ 0 0,.slice EQ 0 0,.slice EQ 0 0,.slice EQ 0 0,.slice EQ 0 0,.slice EQ 0 0,.slice EQ 0 0],.slice EQ 0 0,.int .i64 0],[]⟩ 16 (by kernel_rfl) (by kernel_rfl) (by kernel_rfl) (by kernel_rfl)) ?_
 intro W qB args ds gs before aml hW aji _;have Wk: ∀(j:Nat) t v,Tryz.f3.params[j]? =some t->args[j]? =some v->Value.okWide Tryz.prog W .any qB t v:=aml;have hW':=hW;obtain ⟨p,q,hA0,hV,rfl,XT,LH⟩:=hW;have hA:DataW.TrodAll enc Tryz.prog W 0 (fun _=>If) If Tryz.f3.params.toList args.toList ds p:=hA0;rw [Tryz.params3] at hA Wk;obtain ⟨v0,vs0,d0,ds0,p0,q0,qW,rfl,rfl,h0,r0⟩:=trodAll_cons hA;obtain ⟨v1,vs1,d1,ds1,p1,q1,rfl,rfl,rfl,h1,r1⟩:=trodAll_cons r0;obtain ⟨v2,vs2,d2,ds2,p2,q2,rfl,rfl,rfl,h2,r2⟩:=trodAll_cons r1;obtain ⟨rfl,rfl,rfl⟩:=trodAll_nil r2;obtain rfl:args= #[v0,v1,v2]:=by cases args;simp_all
 obtain ⟨rfl,rfl⟩:=trodVars_none hV;obtain ⟨_,g0,⟨a0,rfl,w0⟩,e0,k0⟩:=cD.aox ahN Tryz.underlying54 (Wk 0 54 v0 rfl rfl) h0;obtain rfl:g0=(wj (dN.enc a0)).getD []:=by rw [e0];rfl
 obtain ⟨a1,w1,k1⟩:=cD.aoy ahQ Tryz.underlying55 (Wk 1 55 v1 rfl rfl) h1;obtain ⟨a2,w2,k2⟩:=cD.aoz Tryz.underlying3 (Wk 2 3 v2 rfl rfl) h2;obtain ⟨n,s,z,dq⟩:=jj.aoA c3.ok rfl (a:=(a0,a1,a2)) (Am a0 a1 a2 (BW.of w0.1.1 w0.1.2) (BW.of w0.2.1.1 w0.2.1.2) (BW.of w0.2.2.1.1 w0.2.2.1.2) (BW.of w0.2.2.2.1 w0.2.2.2.2) (fun a h=>⟨wf_i64 (w1 a h).2.2.2.2.2.1,wf_i64 (w1 a h).2.2.2.2.2.2⟩)) (ps:=[.agg ((wj (dN.enc a0)).getD []),.sl 7 IR (a1.map (RT.pv [.i .u8,.i .i64,.i .i64,.i .i64,.i .i64,.i .i64,.i .i64])),.int .i64 a2]) rfl rfl;refine (V6 (P:=Tryz.prog) (prims:=fun _=>If) (TT.ai' UO) (TT.abR UO) oL dq (us:=[v0,v1,v2]) (w:=W) (.cons _ _ _ _ k0 (.cons _ _ _ _ k1 (.cons _ _ _ _ k2 (.nil))))).mono fun e W' ⟨he,hb⟩=>?_
 subst he;exact ⟨_,rfl,YD (P:=Tryz.prog) (bt:=4) Qk1 rfl rfl (by kernel_rfl) (by
  rw [Tryz.params3];intro t ht;simp only [List.mem_cons,List.not_mem_nil,or_false] at ht;rcases ht with rfl|rfl|rfl
  · exact amj
  · exact amk
  exact att) hW' rfl hb⟩
theorem stretchParts_holds:Rows.StretchPartsSaid:=
 OpenClaim.holds_of_wide 3 Tryz.f3 rfl rfl rfl rfl rfl rfl rfl ⟨rfl,rfl,rfl,rfl,rfl⟩ rfl rfl rfl rfl rfl (by kernel_rfl) Tryz.func3 adS
  (of_decide_eq_true (by kernel_rfl)) (by unfold Func.isWrapper;first|(rw [AC (by decide+kernel)];kernel_rfl)|(rw [Do (by decide+kernel)];exact ⟨rfl,rfl⟩))
  (fun os started H enc _=>adT os started H enc)
end Go.Proofs.YthljiplggdanpaaGreat
