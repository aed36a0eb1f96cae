/- The law HangerEvents returns true: its plain function gives true whatever comes in. -/
import Derived.Test.YtcljjehjppgijaaGreatRows
import Derived.Test.YtcljjehjppgijaaGreatWQTB
import Derived.Test.YtcljjehjppgijaaGreatWQM4
import Derived.Test.YtcljjehjppgijaaGreatWVm3
open List renaming append_nil->lw
open Option renaming none->pp
open Bool renaming true->ut
namespace Go.Proofs.YtcljjehjppgijaaGreat
open Go.ChangeShapes Go.WideShapes Go.ChangeAt Go.RowKit Go.Vm
theorem OZ:cp Tryz.prog 2 (gL [.i .i64]):=cp.int Tryz.underlying2
theorem Jj:cp Tryz.prog 23 (gL [.i .i64,.i .i64]):=(cp.struct (Ks:=[(gL [.i .i64]),(gL [.i .i64])]) Tryz.underlying23 (bc.cons (by kernel_rfl) OZ (bc.cons (by kernel_rfl) OZ (bc.nil))) (by kernel_rfl)).mono (fun vs h=>ny (rs:=[[.i .i64],[.i .i64]]) h)
theorem zZ:cp Tryz.prog 3 (gL [.i .i64]):=cp.int Tryz.underlying3
theorem ahh:cp Tryz.prog 59 (gL [.i .i64,.i .i64,.i .i64]):=(cp.struct (Ks:=[(gL [.i .i64]),(gL [.i .i64]),(gL [.i .i64])]) Tryz.underlying59 (bc.cons (by kernel_rfl) zZ (bc.cons (by kernel_rfl) OZ (bc.cons (by kernel_rfl) OZ (bc.nil)))) (by kernel_rfl)).mono (fun vs h=>ny (rs:=[[.i .i64],[.i .i64],[.i .i64]]) h)
theorem ahi:cp Tryz.prog 24 (LO [.i .i64,.i .i64,.i .i64]):=cp.slice (r:=[.i .i64,.i .i64,.i .i64]) Tryz.underlying24 ahh (by kernel_rfl) (by decide)
structure Field.WF (c:Field):Prop where
 am: ∀a∈c.am,RT.wf [.i .i64,.i .i64,.i .i64] a
def O0:List SV->Prop:=fun vs=> ∃c:Field,vs=cQ.enc c/\c.WF
theorem ahj:cp Tryz.prog 26 O0:=(cp.struct (Ks:=[(LO [.i .i64,.i .i64,.i .i64])]) Tryz.underlying26 (bc.cons (by kernel_rfl) ahi (bc.nil)) (by kernel_rfl)).mono (by rintro vs ⟨_,b0,rfl,⟨c0,rfl,w0⟩,rfl⟩;refine ⟨⟨c0⟩,?_,⟨w0⟩⟩;simp only [lw];rfl)
theorem ahk:cp Tryz.prog 75 (gL [.i .i64,.i .i64]):=(cp.struct (Ks:=[(gL [.i .i64]),(gL [.i .i64])]) Tryz.underlying75 (bc.cons (by kernel_rfl) zZ (bc.cons (by kernel_rfl) zZ (bc.nil))) (by kernel_rfl)).mono (fun vs h=>ny (rs:=[[.i .i64],[.i .i64]]) h)
theorem aaW:cp Tryz.prog 134 (gL [.i .i64,.i .i64,.i .i64]):=(cp.struct (Ks:=[(gL [.i .i64]),(gL [.i .i64,.i .i64])]) Tryz.underlying134 (bc.cons (by kernel_rfl) zZ (bc.cons (by kernel_rfl) ahk (bc.nil))) (by kernel_rfl)).mono (fun vs h=>ny (rs:=[[.i .i64],[.i .i64,.i .i64]]) h)
theorem ahl:cp Tryz.prog 27 (LO [.i .i64,.i .i64,.i .i64]):=cp.slice (r:=[.i .i64,.i .i64,.i .i64]) Tryz.underlying27 aaW (by kernel_rfl) (by decide)
structure aZ.WF (c:aZ):Prop where
 aL:RT.wf [.i .i64] c.aL
 ce: ∀a∈c.ce,RT.wf [.i .i64,.i .i64,.i .i64] a
def O1:List SV->Prop:=fun vs=> ∃c:aZ,vs=lW.enc c/\c.WF
theorem ahm:cp Tryz.prog 29 O1:=(cp.struct (Ks:=[(gL [.i .i64]),(LO [.i .i64,.i .i64,.i .i64])]) Tryz.underlying29 (bc.cons (by kernel_rfl) zZ (bc.cons (by kernel_rfl) ahl (bc.nil))) (by kernel_rfl)).mono (by rintro vs ⟨_,b0,rfl,⟨c0,rfl,w0⟩,_,b1,rfl,⟨c1,rfl,w1⟩,rfl⟩;refine ⟨⟨c0,c1⟩,?_,⟨w0,w1⟩⟩;simp only [lw];rfl)
theorem Jk:cp Tryz.prog 30 (LO [.i .i64]):=cp.slice (r:=[.i .i64]) Tryz.underlying30 zZ (by kernel_rfl) (by decide)
theorem akH:cp Tryz.prog 4 (gL [.b]):=cp.bool Tryz.underlying4
theorem ahn:cp Tryz.prog 31 (LO [.b]):=cp.slice (r:=[.b]) Tryz.underlying31 akH (by kernel_rfl) (by decide)
structure aS.WF (c:aS):Prop where
 ar: ∀a∈c.ar,RT.wf [.i .i64] a
 be: ∀a∈c.be,RT.wf [.b] a
 bi: ∀a∈c.bi,RT.wf [.i .i64] a
def O2:List SV->Prop:=fun vs=> ∃c:aS,vs=la.enc c/\c.WF
theorem aho:cp Tryz.prog 33 O2:=(cp.struct (Ks:=[(LO [.i .i64]),(LO [.b]),(LO [.i .i64])]) Tryz.underlying33 (bc.cons (by kernel_rfl) Jk (bc.cons (by kernel_rfl) ahn (bc.cons (by kernel_rfl) Jk (bc.nil)))) (by kernel_rfl)).mono (by rintro vs ⟨_,b0,rfl,⟨c0,rfl,w0⟩,_,b1,rfl,⟨c1,rfl,w1⟩,_,b2,rfl,⟨c2,rfl,w2⟩,rfl⟩;refine ⟨⟨c0,c1,c2⟩,?_,⟨w0,w1,w2⟩⟩;simp only [lw];rfl)
theorem O3:cp Tryz.prog 112 (gL [.i .i64,.i .i64]):=(cp.struct (Ks:=[(gL [.i .i64]),(gL [.i .i64])]) Tryz.underlying112 (bc.cons (by kernel_rfl) zZ (bc.cons (by kernel_rfl) zZ (bc.nil))) (by kernel_rfl)).mono (fun vs h=>ny (rs:=[[.i .i64],[.i .i64]]) h)
theorem aaX:cp Tryz.prog 121 (gL [.i .i64,.i .i64,.i .i64,.i .i64,.i .i64]):=(cp.struct (Ks:=[(gL [.i .i64,.i .i64]),(gL [.i .i64]),(gL [.i .i64,.i .i64])]) Tryz.underlying121 (bc.cons (by kernel_rfl) Jj (bc.cons (by kernel_rfl) zZ (bc.cons (by kernel_rfl) O3 (bc.nil)))) (by kernel_rfl)).mono (fun vs h=>ny (rs:=[[.i .i64,.i .i64],[.i .i64],[.i .i64,.i .i64]]) h)
theorem ahp:cp Tryz.prog 34 (LO [.i .i64,.i .i64,.i .i64,.i .i64,.i .i64]):=cp.slice (r:=[.i .i64,.i .i64,.i .i64,.i .i64,.i .i64]) Tryz.underlying34 aaX (by kernel_rfl) (by decide)
structure aJ.WF (c:aJ):Prop where
 ae:aS.WF c.ae
 bv: ∀a∈c.bv,RT.wf [.i .i64,.i .i64,.i .i64,.i .i64,.i .i64] a
 aj: ∀a∈c.aj,RT.wf [.i .i64] a
def LG:List SV->Prop:=fun vs=> ∃c:aJ,vs=eL.enc c/\c.WF
theorem ahq:cp Tryz.prog 36 LG:=(cp.struct (Ks:=[O2,(LO [.i .i64,.i .i64,.i .i64,.i .i64,.i .i64]),(LO [.i .i64])]) Tryz.underlying36 (bc.cons (by kernel_rfl) aho (bc.cons (by kernel_rfl) ahp (bc.cons (by kernel_rfl) Jk (bc.nil)))) (by kernel_rfl)).mono (by rintro vs ⟨_,b0,rfl,⟨c0,rfl,w0⟩,_,b1,rfl,⟨c1,rfl,w1⟩,_,b2,rfl,⟨c2,rfl,w2⟩,rfl⟩;refine ⟨⟨c0,c1,c2⟩,?_,⟨w0,w1,w2⟩⟩;simp only [lw];rfl)
theorem aaY:cp Tryz.prog 114 (gL [.i .i64,.i .i64,.i .i64]):=(cp.struct (Ks:=[(gL [.i .i64]),(gL [.i .i64,.i .i64])]) Tryz.underlying114 (bc.cons (by kernel_rfl) zZ (bc.cons (by kernel_rfl) O3 (bc.nil))) (by kernel_rfl)).mono (fun vs h=>ny (rs:=[[.i .i64],[.i .i64,.i .i64]]) h)
theorem ahr:cp Tryz.prog 37 (LO [.i .i64,.i .i64,.i .i64]):=cp.slice (r:=[.i .i64,.i .i64,.i .i64]) Tryz.underlying37 aaY (by kernel_rfl) (by decide)
structure aH.WF (c:aH):Prop where
 ci:RT.wf [.i .i64,.i .i64] c.ci
 ii:Field.WF c.ii
 af:aZ.WF c.af
 aa:aJ.WF c.aa
 io: ∀a∈c.io,RT.wf [.i .i64,.i .i64,.i .i64] a
def O4:List SV->Prop:=fun vs=> ∃c:aH,vs=cA.enc c/\c.WF
theorem ahs:cp Tryz.prog 39 O4:=(cp.struct (Ks:=[(gL [.i .i64,.i .i64]),O0,O1,LG,(LO [.i .i64,.i .i64,.i .i64])]) Tryz.underlying39 (bc.cons (by kernel_rfl) Jj (bc.cons (by kernel_rfl) ahj (bc.cons (by kernel_rfl) ahm (bc.cons (by kernel_rfl) ahq (bc.cons (by kernel_rfl) ahr (bc.nil)))))) (by kernel_rfl)).mono (by
 rintro vs ⟨_,b0,rfl,⟨c0,rfl,w0⟩,_,b1,rfl,⟨c1,rfl,w1⟩,_,b2,rfl,⟨c2,rfl,w2⟩,_,b3,rfl,⟨c3,rfl,w3⟩,_,b4,rfl,⟨c4,rfl,w4⟩,rfl⟩;refine ⟨⟨c0,c1,c2,c3,c4⟩,?_,⟨w0,w1,w2,w3,w4⟩⟩;simp only [lw];rfl)
structure cC.WF (c:cC):Prop where
 jp:aH.WF c.jp
 up: ∀a∈c.up,RT.wf [.i .i64] a
def Uq:List SV->Prop:=fun vs=> ∃c:cC,vs=ig.enc c/\c.WF
theorem aht:cp Tryz.prog 41 Uq:=(cp.struct (Ks:=[O4,(LO [.i .i64])]) Tryz.underlying41 (bc.cons (by kernel_rfl) ahs (bc.cons (by kernel_rfl) Jk (bc.nil))) (by kernel_rfl)).mono (by rintro vs ⟨_,b0,rfl,⟨c0,rfl,w0⟩,_,b1,rfl,⟨c1,rfl,w1⟩,rfl⟩;refine ⟨⟨c0,c1⟩,?_,⟨w0,w1⟩⟩;simp only [lw];rfl)
theorem akI:Tryz.prog.readableRec 41=ut/\41<Tryz.prog.types.size:=⟨by kernel_rfl,of_decide_eq_true (by kernel_rfl)⟩
theorem ab1:Tryz.prog.readableRec 23=ut/\23<Tryz.prog.types.size:=⟨by kernel_rfl,of_decide_eq_true (by kernel_rfl)⟩
theorem apv:ownKnob Tryz.prog.godebug=pp:=by kernel_rfl
theorem ng {a b:Bool} (h:a=ut) (k:b=ut):(a&&b)=ut:=by rw [h,k];rfl
theorem Qk0:Rows.hangerEventsRow.wf (OpenSpec.ofChange Rows.hangerEventsSpec)=ut:=by decide+kernel
theorem Qk1:laidOutB Tryz.prog=ut:=by decide+kernel
theorem Qk2:mapsRowed Tryz.prog=ut:=by decide+kernel
theorem Qk3:Tryz.f4.params.all (Tryz.prog.readableRec ·)=ut:=by decide+kernel
theorem Qk4:namedTie Tryz.prog Rows.hangerEventsRow.named Rows.hangerEventsSpec.vars=ut:=by decide+kernel
theorem Qk5:(Rows.hangerEventsRow.stops==[])=ut:=by decide+kernel
theorem Qk6:(Tryz.prog.stops==[])=ut:=by decide+kernel
theorem Qk7:(Rows.hangerEventsRow.knobs==[])=ut:=by decide+kernel
theorem Qk8:(Tryz.prog.stopKnobs==[])=ut:=by decide+kernel
theorem Qk9:(Rows.hangerEventsRow.inPlace==Tryz.prog.inPlace 4)=ut:=by decide+kernel
theorem apw:(Rows.hangerEventsRow.unfollowed==Tryz.prog.unfollowed 4)=ut:=by decide+kernel
theorem apx:(Rows.hangerEventsRow.recurses==Tryz.prog.recurses 4)=ut:=by decide+kernel
theorem apy:(Rows.hangerEventsRow.named==Tryz.prog.varsNamed 4)=ut:=by decide+kernel
theorem apz:(Rows.hangerEventsRow.maps==(Tryz.f4.params.toList++Rows.hangerEventsSpec.plain.varTypes Tryz.prog).any (Tryz.prog.mapsRec ·))=ut:=by decide+kernel
theorem apA:(Rows.hangerEventsRow.ifaces==(Tryz.f4.params.toList++Rows.hangerEventsSpec.plain.varTypes Tryz.prog).any (Tryz.prog.ifacesRec ·))=ut:=by decide+kernel
theorem apB:(Rows.hangerEventsRow.mapsOut==Tryz.prog.mapsAmong Tryz.f4.resultTypes.toList)=ut:=by decide+kernel
theorem apC:(Rows.hangerEventsRow.loops==(Tryz.f4.params.toList++Rows.hangerEventsSpec.plain.varTypes Tryz.prog).any (Tryz.prog.loopsFrom ·))=ut:=by decide+kernel
theorem apD:(Rows.hangerEventsRow.wideKeys==(Tryz.f4.params.toList++Rows.hangerEventsSpec.plain.varTypes Tryz.prog++Tryz.f4.resultTypes.toList).any (Tryz.prog.wideKeysFrom ·))=ut:=by decide+kernel
theorem apE:Rows.hangerEventsSpec.vars.all (Tryz.prog.varReadable ·)=ut:=by decide+kernel
theorem apF:Tryz.f4.resultTypes.all (fun t=>Tryz.prog.readableRec t&&decide (t<Tryz.prog.types.size))=ut:=by decide+kernel
theorem apG:(Rows.hangerEventsRow.ifacesOut==Tryz.f4.resultTypes.toList.any (Tryz.prog.ifacesRec ·))=ut:=by decide+kernel
theorem apH:(Rows.hangerEventsRow.loopsOut==Tryz.f4.resultTypes.toList.any (Tryz.prog.loopsFrom ·))=ut:=by decide+kernel
theorem apI:(Rows.hangerEventsRow.plainKeys==Tryz.prog.plainKeys)=ut:=by decide+kernel
theorem apJ:Rows.hangerEventsRow.shortTexts.isNone=ut:=by decide+kernel
theorem apK:Tryz.prog.stopsHeard=ut:=by decide+kernel
theorem apL:Tryz.prog.mayEnter=ut:=by decide+kernel
theorem apM:(Rows.hangerEventsRow.lifted==Tryz.prog.liftsFinal)=ut:=by decide+kernel
theorem apN:(Tryz.prog.make==some Rows.hangerEventsRow.make)=ut:=by decide+kernel
theorem apO:(Rows.hangerEventsRow.kinds==(if Rows.hangerEventsRow.domain.isEmpty then [] else Tryz.f4.params.toList.map fun t=>match Tryz.prog.underlying t with|some (.int k)=>some k|_=>pp))=ut:=by decide+kernel
theorem apP:(Rows.hangerEventsRow.pinned==Rows.hangerEventsRow.pinnedBy)=ut:=by decide+kernel
theorem apQ:(Rows.hangerEventsRow.veiled==(Tryz.f4.params.toList++Rows.hangerEventsSpec.plain.varTypes Tryz.prog++Tryz.f4.resultTypes.toList).any (Tryz.prog.veiledRec ·))=ut:=by decide+kernel
theorem apR:Rows.hangerEventsRow.veiledFits Tryz.prog Tryz.f4.params.toList (Tryz.f4.params.toList++Rows.hangerEventsSpec.plain.varTypes Tryz.prog++Tryz.f4.resultTypes.toList)=ut:=by decide+kernel
set_option maxRecDepth 100000 in
theorem aaZ:joinedFacts Tryz.prog 4 Tryz.f4 Rows.hangerEventsSpec Rows.hangerEventsRow=ut:=(ng (ng (ng (ng (ng (ng (ng (ng (ng (ng (ng (ng (ng (ng (ng (ng (ng (ng (ng (ng (ng (ng (ng (ng (ng (ng (ng (ng (ng (ng (ng Qk0 Qk1) Qk2) Qk3) Qk4) Qk5) Qk6) Qk7) Qk8) Qk9) apw) apx) apy) apz) apA) apB) apC) apD) apE) apF) apG) apH) apI) apJ) apK) apL) apM) apN) apO) apP) apQ) apR)
set_option maxRecDepth 100000 in
theorem aa0 (os:Os) (started:os.Started) (H:Type) (enc:TypeId×Value->H):
 ReturnsInHanded {} Tryz.checked os 4 .any (Rows.hangerEventsSpec.pre6 enc Tryz.prog Tryz.f4 Rows.hangerEventsRow.domain false) (Rows.hangerEventsSpec.post enc Tryz.prog Tryz.f4 false ut false false):=by
 refine returnsInHanded_of_change (C:=Tryz.checked) apv started (by kernel_rfl) Tryz.func4
  (ChangeSpec.witness6 (enc:=enc) (C:=Tryz.checked) false ⟨#[],#[.agg #[.int .i64 0,.int .i64 0,.slice pp 0 0,.int .i64 0,.slice pp 0 0,.slice pp 0 0,.slice pp 0 0,.slice pp 0 0,.slice pp 0 0,.slice pp 0 0,.slice pp 0 0,.slice pp 0 0],.agg #[.int .i64 0,.int .i64 0],.agg #[.int .i64 0,.int .i64 0]],[]⟩ 16 (by kernel_rfl) (by kernel_rfl) (by kernel_rfl) (by kernel_rfl)) ?_
 intro W oE args ds gs before akJ hW Vp _;have P1: ∀(j:Nat) t v,Tryz.f4.params[j]? =some t->args[j]? =some v->Value.okWide Tryz.prog W .any oE t v:=akJ;have hW':=hW;obtain ⟨p,q,hA0,hV,rfl,Rb,GF⟩:=hW;have hA:DataW.TrodAll enc Tryz.prog W 0 (fun _=>ut) ut Tryz.f4.params.toList args.toList ds p:=hA0;rw [Tryz.params4] at hA P1;obtain ⟨v0,vs0,d0,ds0,p0,q0,kZ,rfl,rfl,h0,r0⟩:=trodAll_cons hA;obtain ⟨v1,vs1,d1,ds1,p1,q1,rfl,rfl,rfl,h1,r1⟩:=trodAll_cons r0;obtain ⟨v2,vs2,d2,ds2,p2,q2,rfl,rfl,rfl,h2,r2⟩:=trodAll_cons r1;obtain ⟨rfl,rfl,rfl⟩:=trodAll_nil r2;obtain rfl:args= #[v0,v1,v2]:=by cases args;simp_all
 obtain ⟨rfl,rfl⟩:=trodVars_none hV;obtain ⟨_,g0,⟨a0,rfl,w0⟩,e0,k0⟩:=cp.ac3 aht Tryz.underlying41 (P1 0 41 v0 rfl rfl) h0;obtain rfl:g0=(oK (ig.enc a0)).getD []:=by rw [e0];rfl
 obtain ⟨_,g1,⟨a1,rfl,w1⟩,e1,k1⟩:=cp.ac3 Jj Tryz.underlying23 (P1 1 23 v1 rfl rfl) h1;obtain rfl:g1=(oK (RT.sv [.i .i64,.i .i64] a1)).getD []:=by rw [e1];rfl
 obtain ⟨_,g2,⟨a2,rfl,w2⟩,e2,k2⟩:=cp.ac3 Jj Tryz.underlying23 (P1 2 23 v2 rfl rfl) h2;obtain rfl:g2=(oK (RT.sv [.i .i64,.i .i64] a2)).getD []:=by rw [e2];rfl
 obtain ⟨n,s,z,bI⟩:=cE.amV ako Ty (a:=(a0,a1,a2)) (vA a0 a1 a2 (T8.of w0.jp.ci w0.jp.aa.bv) ⟨wf_i64 w1.1,wf_i64 w1.2⟩ ⟨wf_i64 w2.1,wf_i64 w2.2⟩) (ps:=[.agg ((oK (ig.enc a0)).getD []),.agg ((oK (RT.sv [.i .i64,.i .i64] a1)).getD []),.agg ((oK (RT.sv [.i .i64,.i .i64] a2)).getD [])]) rfl rfl;refine (PM (P:=Tryz.prog) (prims:=fun _=>ut) aao MZ jd bI (us:=[v0,v1,v2]) (w:=W) (.cons _ _ _ _ k0 (.cons _ _ _ _ k1 (.cons _ _ _ _ k2 (.nil))))).mono fun e W' ⟨he,hb⟩=>?_
 subst he;exact ⟨_,rfl,R1 (P:=Tryz.prog) (bt:=4) Qk1 rfl rfl (by kernel_rfl) (by
  rw [Tryz.params4];intro t ht;simp only [List.mem_cons,List.not_mem_nil,or_false] at ht;rcases ht with rfl|rfl|rfl
  · exact akI
  · exact ab1
  exact ab1) hW' rfl hb⟩
theorem hangerEvents_holds:Rows.HangerEventsSaid:=
 OpenClaim.holds_of_wide 4 Tryz.f4 rfl rfl rfl rfl rfl rfl rfl ⟨rfl,rfl,rfl,rfl,rfl⟩ rfl rfl rfl rfl rfl (by kernel_rfl) Tryz.func4 aaZ
  (of_decide_eq_true (by kernel_rfl)) (by unfold Func.isWrapper;first|(rw [lm (by decide+kernel)];kernel_rfl)|(rw [ls (by decide+kernel)];exact ⟨rfl,rfl⟩))
  (fun os started H enc _=>aa0 os started H enc)
end Go.Proofs.YtcljjehjppgijaaGreat
