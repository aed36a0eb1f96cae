/- The law HeaterLeads returns true: its plain function gives true whatever comes in. -/
import Derived.Test.YthljmpcakagceaaGreatRows
import Derived.Test.YthljmpcakagceaaGreatEQS2
import Derived.Test.YthljmpcakagceaaGreatEQM4
import Derived.Test.YthljmpcakagceaaGreatEVm3
namespace Go.Proofs.YthljmpcakagceaaGreat
open Go.ChangeShapes Go.WideShapes Go.ChangeAt Go.RowKit Go.Vm
theorem Y8:cD Tryz.prog 2 (gS [.i .i64]):=cD.int Tryz.underlying2
theorem W7:cD Tryz.prog 26 (gS [.i .i64,.i .i64]):=(cD.struct (Ks:=[(gS [.i .i64]),(gS [.i .i64])]) Tryz.underlying26 (bE.cons (by kernel_rfl) Y8 (bE.cons (by kernel_rfl) Y8 (bE.nil))) (by kernel_rfl)).mono (fun vs h=>nO (rs:=[[.i .i64],[.i .i64]]) h)
theorem yC:cD Tryz.prog 3 (gS [.i .i64]):=cD.int Tryz.underlying3
theorem aO6:cD Tryz.prog 64 (gS [.i .i64,.i .i64,.i .i64]):=(cD.struct (Ks:=[(gS [.i .i64]),(gS [.i .i64]),(gS [.i .i64])]) Tryz.underlying64 (bE.cons (by kernel_rfl) yC (bE.cons (by kernel_rfl) Y8 (bE.cons (by kernel_rfl) Y8 (bE.nil)))) (by kernel_rfl)).mono (fun vs h=>nO (rs:=[[.i .i64],[.i .i64],[.i .i64]]) h)
theorem aO7:cD Tryz.prog 22 (S4 [.i .i64,.i .i64,.i .i64]):=cD.slice (r:=[.i .i64,.i .i64,.i .i64]) Tryz.underlying22 aO6 (by kernel_rfl) (by decide)
structure Field.WF (c:Field):Prop where
 points: ∀a∈c.points,RT.wf [.i .i64,.i .i64,.i .i64] a
def Y9:List SV->Prop:=fun vs=> ∃c:Field,vs=dQ.enc c/\c.WF
theorem aO8:cD Tryz.prog 24 Y9:=(cD.struct (Ks:=[(S4 [.i .i64,.i .i64,.i .i64])]) Tryz.underlying24 (bE.cons (by kernel_rfl) aO7 (bE.nil)) (by kernel_rfl)).mono (by
 rintro vs ⟨_,b0,rfl,⟨c0,rfl,w0⟩,rfl⟩;refine ⟨⟨c0⟩,?_,⟨w0⟩⟩;simp only [List.append_nil]
 rfl)
theorem aO9:cD Tryz.prog 66 (gS [.i .i64,.i .i64]):=(cD.struct (Ks:=[(gS [.i .i64]),(gS [.i .i64])]) Tryz.underlying66 (bE.cons (by kernel_rfl) yC (bE.cons (by kernel_rfl) yC (bE.nil))) (by kernel_rfl)).mono (fun vs h=>nO (rs:=[[.i .i64],[.i .i64]]) h)
theorem aJy:cD Tryz.prog 197 (gS [.i .i64,.i .i64,.i .i64]):=(cD.struct (Ks:=[(gS [.i .i64]),(gS [.i .i64,.i .i64])]) Tryz.underlying197 (bE.cons (by kernel_rfl) yC (bE.cons (by kernel_rfl) aO9 (bE.nil))) (by kernel_rfl)).mono (fun vs h=>nO (rs:=[[.i .i64],[.i .i64,.i .i64]]) h)
theorem aPa:cD Tryz.prog 31 (S4 [.i .i64,.i .i64,.i .i64]):=cD.slice (r:=[.i .i64,.i .i64,.i .i64]) Tryz.underlying31 aJy (by kernel_rfl) (by decide)
structure aU.WF (c:aU):Prop where
 next_:RT.wf [.i .i64] c.next_
 list: ∀a∈c.list,RT.wf [.i .i64,.i .i64,.i .i64] a
def ZA:List SV->Prop:=fun vs=> ∃c:aU,vs=pX.enc c/\c.WF
theorem aPb:cD Tryz.prog 33 ZA:=(cD.struct (Ks:=[(gS [.i .i64]),(S4 [.i .i64,.i .i64,.i .i64])]) Tryz.underlying33 (bE.cons (by kernel_rfl) yC (bE.cons (by kernel_rfl) aPa (bE.nil))) (by kernel_rfl)).mono (by
 rintro vs ⟨_,b0,rfl,⟨c0,rfl,w0⟩,_,b1,rfl,⟨c1,rfl,w1⟩,rfl⟩;refine ⟨⟨c0,c1⟩,?_,⟨w0,w1⟩⟩;simp only [List.append_nil]
 rfl)
theorem W8:cD Tryz.prog 34 (S4 [.i .i64]):=cD.slice (r:=[.i .i64]) Tryz.underlying34 yC (by kernel_rfl) (by decide)
theorem aRE:cD Tryz.prog 4 (gS [.b]):=cD.bool Tryz.underlying4
theorem aPc:cD Tryz.prog 35 (S4 [.b]):=cD.slice (r:=[.b]) Tryz.underlying35 aRE (by kernel_rfl) (by decide)
structure aR.WF (c:aR):Prop where
 uses: ∀a∈c.uses,RT.wf [.i .i64] a
 used: ∀a∈c.used,RT.wf [.b] a
 free: ∀a∈c.free,RT.wf [.i .i64] a
def ZB:List SV->Prop:=fun vs=> ∃c:aR,vs=oN.enc c/\c.WF
theorem aPd:cD Tryz.prog 37 ZB:=(cD.struct (Ks:=[(S4 [.i .i64]),(S4 [.b]),(S4 [.i .i64])]) Tryz.underlying37 (bE.cons (by kernel_rfl) W8 (bE.cons (by kernel_rfl) aPc (bE.cons (by kernel_rfl) W8 (bE.nil)))) (by kernel_rfl)).mono (by
 rintro vs ⟨_,b0,rfl,⟨c0,rfl,w0⟩,_,b1,rfl,⟨c1,rfl,w1⟩,_,b2,rfl,⟨c2,rfl,w2⟩,rfl⟩;refine ⟨⟨c0,c1,c2⟩,?_,⟨w0,w1,w2⟩⟩;simp only [List.append_nil]
 rfl)
theorem ZC:cD Tryz.prog 135 (gS [.i .i64,.i .i64]):=(cD.struct (Ks:=[(gS [.i .i64]),(gS [.i .i64])]) Tryz.underlying135 (bE.cons (by kernel_rfl) yC (bE.cons (by kernel_rfl) yC (bE.nil))) (by kernel_rfl)).mono (fun vs h=>nO (rs:=[[.i .i64],[.i .i64]]) h)
theorem aJz:cD Tryz.prog 137 (gS [.i .i64,.i .i64,.i .i64,.i .i64,.i .i64]):=(cD.struct (Ks:=[(gS [.i .i64,.i .i64]),(gS [.i .i64]),(gS [.i .i64,.i .i64])]) Tryz.underlying137 (bE.cons (by kernel_rfl) W7 (bE.cons (by kernel_rfl) yC (bE.cons (by kernel_rfl) ZC (bE.nil)))) (by kernel_rfl)).mono (fun vs h=>nO (rs:=[[.i .i64,.i .i64],[.i .i64],[.i .i64,.i .i64]]) h)
theorem aPe:cD Tryz.prog 38 (S4 [.i .i64,.i .i64,.i .i64,.i .i64,.i .i64]):=cD.slice (r:=[.i .i64,.i .i64,.i .i64,.i .i64,.i .i64]) Tryz.underlying38 aJz (by kernel_rfl) (by decide)
structure aG.WF (c:aG):Prop where
 slots:aR.WF c.slots
 heap: ∀a∈c.heap,RT.wf [.i .i64,.i .i64,.i .i64,.i .i64,.i .i64] a
 where_: ∀a∈c.where_,RT.wf [.i .i64] a
def UW:List SV->Prop:=fun vs=> ∃c:aG,vs=gM.enc c/\c.WF
theorem aPf:cD Tryz.prog 40 UW:=(cD.struct (Ks:=[ZB,(S4 [.i .i64,.i .i64,.i .i64,.i .i64,.i .i64]),(S4 [.i .i64])]) Tryz.underlying40 (bE.cons (by kernel_rfl) aPd (bE.cons (by kernel_rfl) aPe (bE.cons (by kernel_rfl) W8 (bE.nil)))) (by kernel_rfl)).mono (by
 rintro vs ⟨_,b0,rfl,⟨c0,rfl,w0⟩,_,b1,rfl,⟨c1,rfl,w1⟩,_,b2,rfl,⟨c2,rfl,w2⟩,rfl⟩;refine ⟨⟨c0,c1,c2⟩,?_,⟨w0,w1,w2⟩⟩;simp only [List.append_nil]
 rfl)
theorem aJA:cD Tryz.prog 201 (gS [.i .i64,.i .i64,.i .i64]):=(cD.struct (Ks:=[(gS [.i .i64]),(gS [.i .i64,.i .i64])]) Tryz.underlying201 (bE.cons (by kernel_rfl) yC (bE.cons (by kernel_rfl) ZC (bE.nil))) (by kernel_rfl)).mono (fun vs h=>nO (rs:=[[.i .i64],[.i .i64,.i .i64]]) h)
theorem aPg:cD Tryz.prog 41 (S4 [.i .i64,.i .i64,.i .i64]):=cD.slice (r:=[.i .i64,.i .i64,.i .i64]) Tryz.underlying41 aJA (by kernel_rfl) (by decide)
structure aJ.WF (c:aJ):Prop where
 now:RT.wf [.i .i64,.i .i64] c.now
 field:Field.WF c.field
 certs:aU.WF c.certs
 agenda:aG.WF c.agenda
 due: ∀a∈c.due,RT.wf [.i .i64,.i .i64,.i .i64] a
def ZD:List SV->Prop:=fun vs=> ∃c:aJ,vs=cW.enc c/\c.WF
theorem aPh:cD Tryz.prog 43 ZD:=(cD.struct (Ks:=[(gS [.i .i64,.i .i64]),Y9,ZA,UW,(S4 [.i .i64,.i .i64,.i .i64])]) Tryz.underlying43 (bE.cons (by kernel_rfl) W7 (bE.cons (by kernel_rfl) aO8 (bE.cons (by kernel_rfl) aPb (bE.cons (by kernel_rfl) aPf (bE.cons (by kernel_rfl) aPg (bE.nil)))))) (by kernel_rfl)).mono (by
 rintro vs ⟨_,b0,rfl,⟨c0,rfl,w0⟩,_,b1,rfl,⟨c1,rfl,w1⟩,_,b2,rfl,⟨c2,rfl,w2⟩,_,b3,rfl,⟨c3,rfl,w3⟩,_,b4,rfl,⟨c4,rfl,w4⟩,rfl⟩;refine ⟨⟨c0,c1,c2,c3,c4⟩,?_,⟨w0,w1,w2,w3,w4⟩⟩;simp only [List.append_nil]
 rfl)
theorem aPi:cD Tryz.prog 62 (gS [.i .i64,.i .i64,.i .i64]):=(cD.struct (Ks:=[(gS [.i .i64]),(gS [.i .i64]),(gS [.i .i64])]) Tryz.underlying62 (bE.cons (by kernel_rfl) yC (bE.cons (by kernel_rfl) yC (bE.cons (by kernel_rfl) yC (bE.nil)))) (by kernel_rfl)).mono (fun vs h=>nO (rs:=[[.i .i64],[.i .i64],[.i .i64]]) h)
theorem aPj:cD Tryz.prog 44 (S4 [.i .i64,.i .i64,.i .i64]):=cD.slice (r:=[.i .i64,.i .i64,.i .i64]) Tryz.underlying44 aPi (by kernel_rfl) (by decide)
structure oD.WF (c:oD):Prop where
 root:RT.wf [.i .i64] c.root
 nodes: ∀a∈c.nodes,RT.wf [.i .i64,.i .i64,.i .i64] a
def aCN:List SV->Prop:=fun vs=> ∃c:oD,vs=yK.enc c/\c.WF
theorem aPk:cD Tryz.prog 46 aCN:=(cD.struct (Ks:=[(gS [.i .i64]),(S4 [.i .i64,.i .i64,.i .i64])]) Tryz.underlying46 (bE.cons (by kernel_rfl) yC (bE.cons (by kernel_rfl) aPj (bE.nil))) (by kernel_rfl)).mono (by
 rintro vs ⟨_,b0,rfl,⟨c0,rfl,w0⟩,_,b1,rfl,⟨c1,rfl,w1⟩,rfl⟩;refine ⟨⟨c0,c1⟩,?_,⟨w0,w1⟩⟩;simp only [List.append_nil]
 rfl)
structure cX.WF (c:cX):Prop where
 clock:aJ.WF c.clock
 tree:oD.WF c.tree
def aCO:List SV->Prop:=fun vs=> ∃c:cX,vs=jV.enc c/\c.WF
theorem aPl:cD Tryz.prog 48 aCO:=(cD.struct (Ks:=[ZD,aCN]) Tryz.underlying48 (bE.cons (by kernel_rfl) aPh (bE.cons (by kernel_rfl) aPk (bE.nil))) (by kernel_rfl)).mono (by
 rintro vs ⟨_,b0,rfl,⟨c0,rfl,w0⟩,_,b1,rfl,⟨c1,rfl,w1⟩,rfl⟩;refine ⟨⟨c0,c1⟩,?_,⟨w0,w1⟩⟩;simp only [List.append_nil]
 rfl)
theorem aRF:Tryz.prog.readableRec 48=true/\48<Tryz.prog.types.size:=⟨by kernel_rfl,of_decide_eq_true (by kernel_rfl)⟩
theorem aRG:Tryz.prog.readableRec 26=true/\26<Tryz.prog.types.size:=⟨by kernel_rfl,of_decide_eq_true (by kernel_rfl)⟩
theorem aTi:ownKnob Tryz.prog.godebug=none:=by kernel_rfl
theorem oY {a b:Bool} (h:a=true) (k:b=true):(a&&b)=true:=by rw [h,k];rfl
theorem Qk0:Rows.heaterLeadsRow.wf (OpenSpec.ofChange Rows.heaterLeadsSpec)=true:=by decide+kernel
theorem Qk1:laidOutB Tryz.prog=true:=by decide+kernel
theorem Qk2:mapsRowed Tryz.prog=true:=by decide+kernel
theorem Qk3:Tryz.f4.params.all (Tryz.prog.readableRec ·)=true:=by decide+kernel
theorem Qk4:namedTie Tryz.prog Rows.heaterLeadsRow.named Rows.heaterLeadsSpec.vars=true:=by decide+kernel
theorem Qk5:(Rows.heaterLeadsRow.stops==[])=true:=by decide+kernel
theorem Qk6:(Tryz.prog.stops==[])=true:=by decide+kernel
theorem Qk7:(Rows.heaterLeadsRow.knobs==[])=true:=by decide+kernel
theorem Qk8:(Tryz.prog.stopKnobs==[])=true:=by decide+kernel
theorem Qk9:(Rows.heaterLeadsRow.inPlace==Tryz.prog.inPlace 4)=true:=by decide+kernel
theorem aTj:(Rows.heaterLeadsRow.unfollowed==Tryz.prog.unfollowed 4)=true:=by decide+kernel
theorem aTk:(Rows.heaterLeadsRow.recurses==Tryz.prog.recurses 4)=true:=by decide+kernel
theorem aTl:(Rows.heaterLeadsRow.named==Tryz.prog.varsNamed 4)=true:=by decide+kernel
theorem aTm:(Rows.heaterLeadsRow.maps==(Tryz.f4.params.toList++Rows.heaterLeadsSpec.plain.varTypes Tryz.prog).any (Tryz.prog.mapsRec ·))=true:=by decide+kernel
theorem aTn:(Rows.heaterLeadsRow.ifaces==(Tryz.f4.params.toList++Rows.heaterLeadsSpec.plain.varTypes Tryz.prog).any (Tryz.prog.ifacesRec ·))=true:=by decide+kernel
theorem aTo:(Rows.heaterLeadsRow.mapsOut==Tryz.prog.mapsAmong Tryz.f4.resultTypes.toList)=true:=by decide+kernel
theorem aTp:(Rows.heaterLeadsRow.loops==(Tryz.f4.params.toList++Rows.heaterLeadsSpec.plain.varTypes Tryz.prog).any (Tryz.prog.loopsFrom ·))=true:=by decide+kernel
theorem aTq:(Rows.heaterLeadsRow.wideKeys==(Tryz.f4.params.toList++Rows.heaterLeadsSpec.plain.varTypes Tryz.prog++Tryz.f4.resultTypes.toList).any (Tryz.prog.wideKeysFrom ·))=true:=by decide+kernel
theorem aTr:Rows.heaterLeadsSpec.vars.all (Tryz.prog.varReadable ·)=true:=by decide+kernel
theorem aTs:Tryz.f4.resultTypes.all (fun t=>Tryz.prog.readableRec t&&decide (t<Tryz.prog.types.size))=true:=by decide+kernel
theorem aTt:(Rows.heaterLeadsRow.ifacesOut==Tryz.f4.resultTypes.toList.any (Tryz.prog.ifacesRec ·))=true:=by decide+kernel
theorem aTu:(Rows.heaterLeadsRow.loopsOut==Tryz.f4.resultTypes.toList.any (Tryz.prog.loopsFrom ·))=true:=by decide+kernel
theorem aTv:(Rows.heaterLeadsRow.plainKeys==Tryz.prog.plainKeys)=true:=by decide+kernel
theorem aTw:Rows.heaterLeadsRow.shortTexts.isNone=true:=by decide+kernel
theorem aTx:Tryz.prog.stopsHeard=true:=by decide+kernel
theorem aTy:Tryz.prog.mayEnter=true:=by decide+kernel
theorem aTz:(Rows.heaterLeadsRow.lifted==Tryz.prog.liftsFinal)=true:=by decide+kernel
theorem aTA:(Tryz.prog.make==some Rows.heaterLeadsRow.make)=true:=by decide+kernel
theorem aTB:(Rows.heaterLeadsRow.kinds==(if Rows.heaterLeadsRow.domain.isEmpty then [] else Tryz.f4.params.toList.map fun t=>match Tryz.prog.underlying t with|some (.int k)=>some k|_=>none))=true:=by decide+kernel
theorem aTC:(Rows.heaterLeadsRow.pinned==Rows.heaterLeadsRow.pinnedBy)=true:=by decide+kernel
theorem aTD:(Rows.heaterLeadsRow.veiled==(Tryz.f4.params.toList++Rows.heaterLeadsSpec.plain.varTypes Tryz.prog++Tryz.f4.resultTypes.toList).any (Tryz.prog.veiledRec ·))=true:=by decide+kernel
theorem aTE:Rows.heaterLeadsRow.veiledFits Tryz.prog Tryz.f4.params.toList (Tryz.f4.params.toList++Rows.heaterLeadsSpec.plain.varTypes Tryz.prog++Tryz.f4.resultTypes.toList)=true:=by decide+kernel
set_option maxRecDepth 100000 in
theorem aJB:joinedFacts Tryz.prog 4 Tryz.f4 Rows.heaterLeadsSpec Rows.heaterLeadsRow=true:=(oY (oY (oY (oY (oY (oY (oY (oY (oY (oY (oY (oY (oY (oY (oY (oY (oY (oY (oY (oY (oY (oY (oY (oY (oY (oY (oY (oY (oY (oY (oY Qk0 Qk1) Qk2) Qk3) Qk4) Qk5) Qk6) Qk7) Qk8) Qk9) aTj) aTk) aTl) aTm) aTn) aTo) aTp) aTq) aTr) aTs) aTt) aTu) aTv) aTw) aTx) aTy) aTz) aTA) aTB) aTC) aTD) aTE)
set_option maxRecDepth 100000 in
theorem aJC (os:Os) (started:os.Started) (H:Type) (enc:TypeId×Value->H):
 ReturnsInHanded {} Tryz.checked os 4 .any (Rows.heaterLeadsSpec.pre6 enc Tryz.prog Tryz.f4 Rows.heaterLeadsRow.domain false) (Rows.heaterLeadsSpec.post enc Tryz.prog Tryz.f4 false true false false):=by
 refine returnsInHanded_of_change (C:=Tryz.checked) aTi started (by kernel_rfl) Tryz.func4
  (ChangeSpec.witness6 (enc:=enc) (C:=Tryz.checked) false ⟨#[],#[.agg #[.int .i64 0,.int .i64 0,.slice none 0 0,.int .i64 0,.slice none 0 0,.slice none 0 0,.slice none 0 0,.slice none 0 0,.slice none 0 0,.slice none 0 0,.slice none 0 0,.int .i64 0,.slice none 0 0],.agg #[.int .i64 0,.int .i64 0]],[]⟩ 16 (by kernel_rfl) (by kernel_rfl) (by kernel_rfl) (by kernel_rfl)) ?_
 intro W base args ds gs before hval0 hW hcnd _;have hval: ∀(j:Nat) t v,Tryz.f4.params[j]? =some t->args[j]? =some v->Value.okWide Tryz.prog W .any base t v:=hval0;have hW':=hW;obtain ⟨p,q,hA0,hV,rfl,hfz,hnd⟩:=hW;have hA:DataW.TrodAll enc Tryz.prog W 0 (fun _=>true) true Tryz.f4.params.toList args.toList ds p:=hA0
 rw [Tryz.params4] at hA hval;obtain ⟨v0,vs0,d0,ds0,p0,q0,hargs,rfl,rfl,h0,r0⟩:=trodAll_cons hA;obtain ⟨v1,vs1,d1,ds1,p1,q1,rfl,rfl,rfl,h1,r1⟩:=trodAll_cons r0;obtain ⟨rfl,rfl,rfl⟩:=trodAll_nil r1;obtain rfl:args= #[v0,v1]:=by cases args;simp_all
 obtain ⟨rfl,rfl⟩:=trodVars_none hV;obtain ⟨_,g0,⟨a0,rfl,w0⟩,e0,k0⟩:=cD.argS aPl Tryz.underlying48 (hval 0 48 v0 rfl rfl) h0;obtain rfl:g0=(pvL (jV.enc a0)).getD []:=by rw [e0];rfl
 obtain ⟨_,g1,⟨a1,rfl,w1⟩,e1,k1⟩:=cD.argS W7 Tryz.underlying26 (hval 1 26 v1 rfl rfl) h1;obtain rfl:g1=(pvL (RT.sv [.i .i64,.i .i64] a1)).getD []:=by rw [e1];rfl
 obtain ⟨n,s,z,hrun⟩:=aN.runA aRu aJZ (a:=(a0,a1)) (BU a0 a1 (aCy.of w0.clock.now w0.clock.agenda.heap) ⟨IZ w1.1,IZ w1.2⟩) (ps:=[.agg ((pvL (jV.enc a0)).getD []),.agg ((pvL (RT.sv [.i .i64,.i .i64] a1)).getD [])]) rfl rfl
 refine (ZY (P:=Tryz.prog) (prims:=fun _=>true) (TT.tabOK X3) (TT.primsOK X3) nB hrun (us:=[v0,v1]) (w:=W) (.cons _ _ _ _ k0 (.cons _ _ _ _ k1 (.nil)))).mono fun e W' ⟨he,hb⟩=>?_
 subst he;exact ⟨_,rfl,aA2 (P:=Tryz.prog) (bt:=4) Qk1 rfl rfl (by kernel_rfl) (by
  rw [Tryz.params4];intro t ht;simp only [List.mem_cons,List.not_mem_nil,or_false] at ht;rcases ht with rfl|rfl
  · exact aRF
  · exact aRG) hW' rfl hb⟩
theorem heaterLeads_holds:Rows.HeaterLeadsSaid:=
 OpenClaim.holds_of_wide 4 Tryz.f4 rfl rfl rfl rfl rfl rfl rfl ⟨rfl,rfl,rfl,rfl,rfl⟩ rfl rfl rfl rfl rfl (by kernel_rfl) Tryz.func4 aJB
  (of_decide_eq_true (by kernel_rfl)) (by unfold Func.isWrapper;first|(rw [if_pos (by decide+kernel)];kernel_rfl)|(rw [if_neg (by decide+kernel)];exact ⟨rfl,rfl⟩))
  (fun os started H enc _=>aJC os started H enc)
end Go.Proofs.YthljmpcakagceaaGreat
