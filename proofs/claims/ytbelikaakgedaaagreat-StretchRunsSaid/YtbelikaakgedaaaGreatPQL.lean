/- The law StretchRuns returns true: its plain function gives true whatever comes in. -/
import Derived.Test.YtbelikaakgedaaaGreatRows
import Derived.Test.YtbelikaakgedaaaGreatPQS4
import Derived.Test.YtbelikaakgedaaaGreatPQM6
import Derived.Test.YtbelikaakgedaaaGreatPVm3
open Option renaming none->If
open Bool renaming true->IR,false->NE
namespace Go.Proofs.YtbelikaakgedaaaGreat
open Go.ChangeShapes Go.WideShapes Go.ChangeAt Go.RowKit Go.Vm
theorem aiT:cU Tryz.prog 5 (oV [.i .u8]):=cU.int Tryz.underlying5
theorem Yr:cU Tryz.prog 2 (oV ki):=cU.int Tryz.underlying2
theorem W5:cU Tryz.prog 23 (oV eC):= .st Tryz.underlying23 (.co Yr (.co Yr .nil)) λvs h=>pJ (rs:=[ki,ki]) h
theorem Ao:cU Tryz.prog 3 (oV ki):=cU.int Tryz.underlying3
theorem aer:cU Tryz.prog 84 (oV cV):= .st Tryz.underlying84 (.co Ao (.co Yr (.co Yr .nil))) λvs h=>pJ (rs:=[ki,ki,ki]) h
theorem alO:cU Tryz.prog 24 (Mu cV):= .Zj Tryz.underlying24 aer
theorem alP:cU Tryz.prog 26 (KC aZ λ_=>True):= .st Tryz.underlying26 (.cl alO .nil) (KC.K2 KC.one λ_ _=>trivial)
theorem aho:cU Tryz.prog 143 (oV eC):= .st Tryz.underlying143 (.co Ao (.co Ao .nil)) λvs h=>pJ (rs:=[ki,ki]) h
theorem ahp:cU Tryz.prog 215 (oV cV):= .st Tryz.underlying215 (.co Ao (.co aho .nil)) λvs h=>pJ (rs:=[ki,eC]) h
theorem alQ:cU Tryz.prog 27 (Mu cV):= .Zj Tryz.underlying27 ahp
theorem alR:cU Tryz.prog 29 (KC jb λ_=>True):= .st Tryz.underlying29 (.ci Ao (.cl alQ .nil)) (KC.K2 (KC.cons (KC.one)) λ_ _=>trivial)
theorem H6:cU Tryz.prog 30 (Mu ki):= .Zj Tryz.underlying30 Ao
theorem aq3:cU Tryz.prog 4 (oV kb):=cU.bool Tryz.underlying4
theorem alS:cU Tryz.prog 31 (Mu kb):= .Zj Tryz.underlying31 aq3
theorem alT:cU Tryz.prog 33 (KC ja λ_=>True):= .st Tryz.underlying33 (.cl H6 (.cl alS (.cl H6 .nil))) (KC.K2 (KC.cons (KC.cons (KC.one))) λ_ _=>trivial)
theorem hsi:cU Tryz.prog 150 (oV eC):= .st Tryz.underlying150 (.co Ao (.co Ao .nil)) λvs h=>pJ (rs:=[ki,ki]) h
theorem ahq:cU Tryz.prog 152 (oV pW):= .st Tryz.underlying152 (.co W5 (.co Ao (.co hsi .nil))) λvs h=>pJ (rs:=[eC,ki,eC]) h
theorem alU:cU Tryz.prog 34 (Mu pW):= .Zj Tryz.underlying34 ahq
def hpo(c:aM):Prop:= ∀a∈c.bv,RT.wf pW a
theorem alV:cU Tryz.prog 36 (KC dO hpo):= .st Tryz.underlying36 (.co alT (.cl alU (.cl H6 .nil))) (KC.K2 (KC.cons (KC.cons (KC.one))) λ_ w=>w.2.1)
theorem ahr:cU Tryz.prog 207 (oV cV):= .st Tryz.underlying207 (.co Ao (.co hsi .nil)) λvs h=>pJ (rs:=[ki,eC]) h
theorem alW:cU Tryz.prog 37 (Mu cV):= .Zj Tryz.underlying37 ahr
def OD(c:aE):Prop:=RT.wf eC c.io/\hpo c.ae
theorem ze.of{c:aE}(h1:RT.wf eC c.io)(h2:∀a∈c.ae.bv,RT.wf pW a):ze c where
 io:=⟨wf_i64 h1.1,wf_i64 h1.2⟩
 Wr w hw:=by
  have:=h2 (c.ae.bv[w]!) (by rw[getElem!_pos c.ae.bv w hw];exact List.getElem_mem hw)
  exact ⟨wf_i64 this.1,wf_i64 this.2.1⟩
theorem R9:cU Tryz.prog 39 (KC bF OD):= .st Tryz.underlying39 (.unE W5 (.co alP (.co alR (.co alV (.cl alW .nil))))) (KC.K2 (KC.cons (KC.cons (KC.cons (KC.cons (KC.one))))) λ_ w=>⟨w.1,w.2.2.2.1⟩)
def aes(c:bD):Prop:=OD c.lc
theorem alX:cU Tryz.prog 41 (KC eY aes):= .st Tryz.underlying41 (.co R9 (.cl H6 .nil)) (KC.K2 (KC.cons (KC.one)) λ_ w=>w.1)
theorem alY:cU Tryz.prog 43 (KC fq λ_=>True):= .st Tryz.underlying43 (.cl H6 (.cl H6 .nil)) (KC.K2 (KC.cons (KC.one)) λ_ _=>trivial)
def hpa(c:bB):Prop:=OD c.lc
theorem alZ:cU Tryz.prog 45 (KC dI hpa):= .st Tryz.underlying45 (.co R9 (.co alY .nil)) (KC.K2 (KC.cons (KC.one)) λ_ w=>w.1)
theorem ahs:cU Tryz.prog 209 (oV cV):= .st Tryz.underlying209 (.co Ao (.co Ao (.co Ao .nil))) λvs h=>pJ (rs:=[ki,ki,ki]) h
theorem al0:cU Tryz.prog 46 (Mu cV):= .Zj Tryz.underlying46 ahs
theorem al1:cU Tryz.prog 48 (KC sM λ_=>True):= .st Tryz.underlying48 (.ci Ao (.cl al0 .nil)) (KC.K2 (KC.cons (KC.one)) λ_ _=>trivial)
def s0'(c:bq):Prop:=OD c.lc
theorem al2:cU Tryz.prog 50 (KC cP s0'):= .st Tryz.underlying50 (.co R9 (.co al1 .nil)) (KC.K2 (KC.cons (KC.one)) λ_ w=>w.1)
def hra(c:bE):Prop:=OD c.lc
theorem al3:cU Tryz.prog 52 (KC cQ hra):= .st Tryz.underlying52 (.co R9 (.cl H6 .nil)) (KC.K2 (KC.cons (KC.one)) λ_ w=>w.1)
def aht(c:Choice):Prop:=aes c.bv/\hpa c.dd/\s0' c.bW/\hra c.bN
theorem al4:cU Tryz.prog 54 (KC bP aht):= .st Tryz.underlying54 (.ci aiT (.co alX (.co alZ (.co al2 (.co al3 .nil))))) (KC.K2 (KC.cons (KC.cons (KC.cons (KC.cons (KC.one))))) λ_ w=>⟨w.2.1,w.2.2.1,w.2.2.2.1,w.2.2.2.2⟩)
theorem al5:cU Tryz.prog 86 (oV zF):= .st Tryz.underlying86 (.co aiT (.co aer (.co Ao (.co W5 .nil)))) λvs h=>pJ (rs:=[[.i .u8],cV,ki,eC]) h
theorem al6:cU Tryz.prog 55 (Mu zF):= .Zj Tryz.underlying55 al5
theorem aq4:Tryz.prog.readableRec 54=IR/\54<Tryz.prog.types.size:=⟨by kernel_rfl,of_decide_eq_true (by kernel_rfl)⟩
theorem aq5:Tryz.prog.readableRec 55=IR/\55<Tryz.prog.types.size:=⟨by kernel_rfl,of_decide_eq_true (by kernel_rfl)⟩
theorem az0:ownKnob Tryz.prog.godebug=If:=by kernel_rfl
theorem az1{a b:Bool}(h:a=IR)(k:b=IR):(a&&b)=IR:=by rw[h,k];rfl
theorem Qk1:laidOutB Tryz.prog=IR:=by decide+kernel
set_option maxHeartbeats 2000000 in
set_option maxRecDepth 100000 in
theorem ahu:joinedFacts Tryz.prog 3 Tryz.f3 Rows.stretchRunsSpec Rows.stretchRunsRow=IR:=by
 unfold joinedFacts
 repeat' with_reducible apply az1
 all_goals decide+kernel
set_option maxRecDepth 100000 in
theorem ahv(os:Os)(started:os.Started)(H:Type)(enc:TypeId×Value->H):
 ReturnsInHanded {} Tryz.checked os 3 .any (Rows.stretchRunsSpec.pre6 enc Tryz.prog Tryz.f3 Rows.stretchRunsRow.domain NE) (Rows.stretchRunsSpec.post enc Tryz.prog Tryz.f3 NE IR NE NE):=by
 refine returnsInHanded_of_change (C:=Tryz.checked) az0 started (by kernel_rfl) Tryz.func3
  (ChangeSpec.witness6 (enc:=enc) (C:=Tryz.checked) NE ⟨#[],#[.agg #[.int .u8 0,.int d5 0,.int d5 0,.slice If 0 0,.int d5 0,.slice If 0 0,.slice If 0 0,.slice If 0 0,.slice If 0 0,.slice If 0 0,.slice If 0 0,.slice If 0 0,.slice If 0 0,.int d5 0,.int d5 0,.slice If 0 0,.int d5 0,.slice If 0 0,.slice If 0 0,.slice If 0 0,.slice If 0 0,.slice If 0 0,.slice If 0 0,.slice If 0 0,.slice If 0 0,.slice If 0 0,.int d5 0,.int d5 0,.slice If 0 0,.int d5 0,.slice If 0 0,.slice If 0 0,.slice If 0 0,.slice If 0 0,.slice If 0 0,.slice If 0 0,.slice If 0 0,.int d5 0,.slice If 0 0,.int d5 0,.int d5 0,.slice If 0 0,.int d5 0,.slice If 0 0,.slice If 0 0,.slice If 0 0,.slice If 0 0,.slice If 0 0,.slice If 0 0,.slice If 0 0,.slice If 0 0],.slice If 0 0],[]⟩ 16 (by kernel_rfl) (by kernel_rfl) (by kernel_rfl) (by kernel_rfl)) ?_
 intro W uM args ds gs before aq6 hW anG _;have Wq: ∀(j:Nat) t v,Tryz.f3.params[j]? =some t->args[j]? =some v->Value.okWide Tryz.prog W .any uM t v:=aq6;have G7:=hW;obtain⟨p,q,hA0,hV,rfl,Vi,OO⟩:=hW;have hA:DataW.TrodAll enc Tryz.prog W 0 (λ_=>IR) IR Tryz.f3.params.toList args.toList ds p:=hA0;rw[Tryz.params3]at hA Wq;obtain⟨v0,vs0,d0,ds0,F,q0,tB,rfl,rfl,h0,r0⟩:=trodAll_cons hA;obtain⟨v1,Rt,d1,ds1,p1,q1,rfl,rfl,rfl,D,r1⟩:=trodAll_cons r0;obtain⟨rfl,rfl,rfl⟩:=trodAll_nil r1;obtain rfl:args= #[v0,v1]:=by cases args;simp_all
 obtain⟨rfl,rfl⟩:=trodVars_none hV;obtain⟨_,g0,⟨a0,rfl,w0⟩,e0,k0⟩:=cU.atr al4 Tryz.underlying54 (Wq 0 54 v0 rfl rfl) h0;obtain rfl:g0=(yG (bP.enc a0)).getD []:=by rw[e0];rfl
 obtain⟨a1,w1,k1⟩:=cU.att al6 Tryz.underlying55 (Wq 1 55 v1 rfl rfl) D;obtain⟨n,s,z,dG⟩:=mQ.atu c3.ok rfl (a:=(a0,a1)) (h2S a0 a1 (ze.of w0.1.1 w0.1.2) (ze.of w0.2.1.1 w0.2.1.2) (ze.of w0.2.2.1.1 w0.2.2.1.2) (ze.of w0.2.2.2.1 w0.2.2.2.2) (λa h=>⟨wf_i64 (w1 a h).2.2.2.2.2.1,wf_i64 (w1 a h).2.2.2.2.2.2⟩)) (ps:=[.agg ((yG (bP.enc a0)).getD []),.sl 7 NE (a1.map (RT.pv [.i .u8,.i d5,.i d5,.i d5,.i d5,.i d5,.i d5]))]) rfl rfl;refine(ln2 (P:=Tryz.prog) (prims:=λ_=>IR) (TT.anw aa1) (TT.aff aa1) qk dG (us:=[v0,v1]) (w:=W) (.cons _ _ _ _ k0 (.cons _ _ _ _ k1 (.nil)))).mono λe W' ⟨he,hb⟩=>?_
 subst he;exact⟨_,rfl,abw (P:=Tryz.prog) (bt:=4) Qk1 rfl rfl (by kernel_rfl) (by
  rw[Tryz.params3];intro t ht;simp only[List.mem_cons,List.not_mem_nil,or_false]at ht;rcases ht with rfl|rfl
  ·exact aq4
  exact aq5) G7 rfl hb⟩
theorem stretchRuns_holds:Rows.StretchRunsSaid:=
 OpenClaim.holds_of_wide 3 Tryz.f3 rfl rfl rfl rfl rfl rfl rfl ⟨rfl,rfl,rfl,rfl,rfl⟩ rfl rfl rfl rfl rfl (by kernel_rfl) Tryz.func3 ahu
  (of_decide_eq_true (by kernel_rfl)) (by unfold Func.isWrapper;first|(rw[Do (by decide+kernel)];kernel_rfl)|(rw[EQ (by decide+kernel)];exact⟨rfl,rfl⟩))
  (λos started H enc _=>ahv os started H enc)
end Go.Proofs.YtbelikaakgedaaaGreat
