/- The law HeditMoves returns true: its plain function gives true whatever comes in. -/
import Derived.Test.YtfejhjllooomlaaGreatRows
import Derived.Test.YtfejhjllooomlaaGreatDQS2
import Derived.Test.YtfejhjllooomlaaGreatDQM4
import Derived.Test.YtfejhjllooomlaaGreatDVm3
namespace Go.Proofs.YtfejhjllooomlaaGreat
open Go.ChangeShapes Go.WideShapes Go.ChangeAt Go.RowKit Go.Vm
theorem aAH:dA Tryz.prog 2 (jA [.i .i64]):=dA.int Tryz.underlying2
theorem aEg:dA Tryz.prog 23 (jA [.i .i64,.i .i64]):=(dA.struct (Ks:=[(jA [.i .i64]),(jA [.i .i64])]) Tryz.underlying23 (bJ.cons (by kernel_rfl) aAH (bJ.cons (by kernel_rfl) aAH (bJ.nil))) (by kernel_rfl)).mono (fun vs h=>qZ (rs:=[[.i .i64],[.i .i64]]) h)
theorem F7:dA Tryz.prog 3 (jA [.i .i64]):=dA.int Tryz.underlying3
theorem aRs:dA Tryz.prog 76 (jA [.i .i64,.i .i64,.i .i64]):=(dA.struct (Ks:=[(jA [.i .i64]),(jA [.i .i64]),(jA [.i .i64])]) Tryz.underlying76 (bJ.cons (by kernel_rfl) F7 (bJ.cons (by kernel_rfl) aAH (bJ.cons (by kernel_rfl) aAH (bJ.nil)))) (by kernel_rfl)).mono (fun vs h=>qZ (rs:=[[.i .i64],[.i .i64],[.i .i64]]) h)
theorem aRt:dA Tryz.prog 24 (WX [.i .i64,.i .i64,.i .i64]):=dA.slice (r:=[.i .i64,.i .i64,.i .i64]) Tryz.underlying24 aRs (by kernel_rfl) (by decide)
structure Field.WF (c:Field):Prop where
 points: ∀a∈c.points,RT.wf [.i .i64,.i .i64,.i .i64] a
def aAI:List SV->Prop:=fun vs=> ∃c:Field,vs=cK.enc c/\c.WF
theorem aRu:dA Tryz.prog 26 aAI:=(dA.struct (Ks:=[(WX [.i .i64,.i .i64,.i .i64])]) Tryz.underlying26 (bJ.cons (by kernel_rfl) aRt (bJ.nil)) (by kernel_rfl)).mono (by
 rintro vs ⟨_,b0,rfl,⟨c0,rfl,w0⟩,rfl⟩;refine ⟨⟨c0⟩,?_,⟨w0⟩⟩;simp only [List.append_nil]
 rfl)
theorem aRv:dA Tryz.prog 71 (jA [.i .i64,.i .i64]):=(dA.struct (Ks:=[(jA [.i .i64]),(jA [.i .i64])]) Tryz.underlying71 (bJ.cons (by kernel_rfl) F7 (bJ.cons (by kernel_rfl) F7 (bJ.nil))) (by kernel_rfl)).mono (fun vs h=>qZ (rs:=[[.i .i64],[.i .i64]]) h)
theorem aLe:dA Tryz.prog 156 (jA [.i .i64,.i .i64,.i .i64]):=(dA.struct (Ks:=[(jA [.i .i64]),(jA [.i .i64,.i .i64])]) Tryz.underlying156 (bJ.cons (by kernel_rfl) F7 (bJ.cons (by kernel_rfl) aRv (bJ.nil))) (by kernel_rfl)).mono (fun vs h=>qZ (rs:=[[.i .i64],[.i .i64,.i .i64]]) h)
theorem aRw:dA Tryz.prog 27 (WX [.i .i64,.i .i64,.i .i64]):=dA.slice (r:=[.i .i64,.i .i64,.i .i64]) Tryz.underlying27 aLe (by kernel_rfl) (by decide)
structure bK.WF (c:bK):Prop where
 next_:RT.wf [.i .i64] c.next_
 list: ∀a∈c.list,RT.wf [.i .i64,.i .i64,.i .i64] a
def aAJ:List SV->Prop:=fun vs=> ∃c:bK,vs=iO.enc c/\c.WF
theorem aRx:dA Tryz.prog 29 aAJ:=(dA.struct (Ks:=[(jA [.i .i64]),(WX [.i .i64,.i .i64,.i .i64])]) Tryz.underlying29 (bJ.cons (by kernel_rfl) F7 (bJ.cons (by kernel_rfl) aRw (bJ.nil))) (by kernel_rfl)).mono (by
 rintro vs ⟨_,b0,rfl,⟨c0,rfl,w0⟩,_,b1,rfl,⟨c1,rfl,w1⟩,rfl⟩;refine ⟨⟨c0,c1⟩,?_,⟨w0,w1⟩⟩;simp only [List.append_nil]
 rfl)
theorem TH:dA Tryz.prog 30 (WX [.i .i64]):=dA.slice (r:=[.i .i64]) Tryz.underlying30 F7 (by kernel_rfl) (by decide)
theorem aUh:dA Tryz.prog 4 (jA [.b]):=dA.bool Tryz.underlying4
theorem aRy:dA Tryz.prog 31 (WX [.b]):=dA.slice (r:=[.b]) Tryz.underlying31 aUh (by kernel_rfl) (by decide)
structure aY.WF (c:aY):Prop where
 uses: ∀a∈c.uses,RT.wf [.i .i64] a
 used: ∀a∈c.used,RT.wf [.b] a
 free: ∀a∈c.free,RT.wf [.i .i64] a
def aAK:List SV->Prop:=fun vs=> ∃c:aY,vs=iD.enc c/\c.WF
theorem aRz:dA Tryz.prog 33 aAK:=(dA.struct (Ks:=[(WX [.i .i64]),(WX [.b]),(WX [.i .i64])]) Tryz.underlying33 (bJ.cons (by kernel_rfl) TH (bJ.cons (by kernel_rfl) aRy (bJ.cons (by kernel_rfl) TH (bJ.nil)))) (by kernel_rfl)).mono (by
 rintro vs ⟨_,b0,rfl,⟨c0,rfl,w0⟩,_,b1,rfl,⟨c1,rfl,w1⟩,_,b2,rfl,⟨c2,rfl,w2⟩,rfl⟩;refine ⟨⟨c0,c1,c2⟩,?_,⟨w0,w1,w2⟩⟩;simp only [List.append_nil]
 rfl)
theorem aAL:dA Tryz.prog 126 (jA [.i .i64,.i .i64]):=(dA.struct (Ks:=[(jA [.i .i64]),(jA [.i .i64])]) Tryz.underlying126 (bJ.cons (by kernel_rfl) F7 (bJ.cons (by kernel_rfl) F7 (bJ.nil))) (by kernel_rfl)).mono (fun vs h=>qZ (rs:=[[.i .i64],[.i .i64]]) h)
theorem aLf:dA Tryz.prog 128 (jA [.i .i64,.i .i64,.i .i64,.i .i64,.i .i64]):=(dA.struct (Ks:=[(jA [.i .i64,.i .i64]),(jA [.i .i64]),(jA [.i .i64,.i .i64])]) Tryz.underlying128 (bJ.cons (by kernel_rfl) aEg (bJ.cons (by kernel_rfl) F7 (bJ.cons (by kernel_rfl) aAL (bJ.nil)))) (by kernel_rfl)).mono (fun vs h=>qZ (rs:=[[.i .i64,.i .i64],[.i .i64],[.i .i64,.i .i64]]) h)
theorem aRA:dA Tryz.prog 34 (WX [.i .i64,.i .i64,.i .i64,.i .i64,.i .i64]):=dA.slice (r:=[.i .i64,.i .i64,.i .i64,.i .i64,.i .i64]) Tryz.underlying34 aLf (by kernel_rfl) (by decide)
structure aO.WF (c:aO):Prop where
 slots:aY.WF c.slots
 heap: ∀a∈c.heap,RT.wf [.i .i64,.i .i64,.i .i64,.i .i64,.i .i64] a
 where_: ∀a∈c.where_,RT.wf [.i .i64] a
def WW:List SV->Prop:=fun vs=> ∃c:aO,vs=dX.enc c/\c.WF
theorem aRB:dA Tryz.prog 36 WW:=(dA.struct (Ks:=[aAK,(WX [.i .i64,.i .i64,.i .i64,.i .i64,.i .i64]),(WX [.i .i64])]) Tryz.underlying36 (bJ.cons (by kernel_rfl) aRz (bJ.cons (by kernel_rfl) aRA (bJ.cons (by kernel_rfl) TH (bJ.nil)))) (by kernel_rfl)).mono (by
 rintro vs ⟨_,b0,rfl,⟨c0,rfl,w0⟩,_,b1,rfl,⟨c1,rfl,w1⟩,_,b2,rfl,⟨c2,rfl,w2⟩,rfl⟩;refine ⟨⟨c0,c1,c2⟩,?_,⟨w0,w1,w2⟩⟩;simp only [List.append_nil]
 rfl)
theorem aLg:dA Tryz.prog 160 (jA [.i .i64,.i .i64,.i .i64]):=(dA.struct (Ks:=[(jA [.i .i64]),(jA [.i .i64,.i .i64])]) Tryz.underlying160 (bJ.cons (by kernel_rfl) F7 (bJ.cons (by kernel_rfl) aAL (bJ.nil))) (by kernel_rfl)).mono (fun vs h=>qZ (rs:=[[.i .i64],[.i .i64,.i .i64]]) h)
theorem aRC:dA Tryz.prog 37 (WX [.i .i64,.i .i64,.i .i64]):=dA.slice (r:=[.i .i64,.i .i64,.i .i64]) Tryz.underlying37 aLg (by kernel_rfl) (by decide)
structure aR.WF (c:aR):Prop where
 now:RT.wf [.i .i64,.i .i64] c.now
 field:Field.WF c.field
 certs:bK.WF c.certs
 agenda:aO.WF c.agenda
 due: ∀a∈c.due,RT.wf [.i .i64,.i .i64,.i .i64] a
def aAM:List SV->Prop:=fun vs=> ∃c:aR,vs=bY.enc c/\c.WF
theorem aRD:dA Tryz.prog 39 aAM:=(dA.struct (Ks:=[(jA [.i .i64,.i .i64]),aAI,aAJ,WW,(WX [.i .i64,.i .i64,.i .i64])]) Tryz.underlying39 (bJ.cons (by kernel_rfl) aEg (bJ.cons (by kernel_rfl) aRu (bJ.cons (by kernel_rfl) aRx (bJ.cons (by kernel_rfl) aRB (bJ.cons (by kernel_rfl) aRC (bJ.nil)))))) (by kernel_rfl)).mono (by
 rintro vs ⟨_,b0,rfl,⟨c0,rfl,w0⟩,_,b1,rfl,⟨c1,rfl,w1⟩,_,b2,rfl,⟨c2,rfl,w2⟩,_,b3,rfl,⟨c3,rfl,w3⟩,_,b4,rfl,⟨c4,rfl,w4⟩,rfl⟩;refine ⟨⟨c0,c1,c2,c3,c4⟩,?_,⟨w0,w1,w2,w3,w4⟩⟩;simp only [List.append_nil]
 rfl)
structure bW.WF (c:bW):Prop where
 clock:aR.WF c.clock
 heap: ∀a∈c.heap,RT.wf [.i .i64] a
def aLh:List SV->Prop:=fun vs=> ∃c:bW,vs=jH.enc c/\c.WF
theorem aRE:dA Tryz.prog 41 aLh:=(dA.struct (Ks:=[aAM,(WX [.i .i64])]) Tryz.underlying41 (bJ.cons (by kernel_rfl) aRD (bJ.cons (by kernel_rfl) TH (bJ.nil))) (by kernel_rfl)).mono (by
 rintro vs ⟨_,b0,rfl,⟨c0,rfl,w0⟩,_,b1,rfl,⟨c1,rfl,w1⟩,rfl⟩;refine ⟨⟨c0,c1⟩,?_,⟨w0,w1⟩⟩;simp only [List.append_nil]
 rfl)
theorem aUi:Tryz.prog.readableRec 41=true/\41<Tryz.prog.types.size:=⟨by kernel_rfl,of_decide_eq_true (by kernel_rfl)⟩
theorem aV9:Tryz.prog.readableRec 3=true/\3<Tryz.prog.types.size:=⟨by kernel_rfl,of_decide_eq_true (by kernel_rfl)⟩
theorem aWa:ownKnob Tryz.prog.godebug=none:=by kernel_rfl
theorem qR {a b:Bool} (h:a=true) (k:b=true):(a&&b)=true:=by rw [h,k];rfl
theorem Qk0:Rows.heditMovesRow.wf (OpenSpec.ofChange Rows.heditMovesSpec)=true:=by decide+kernel
theorem Qk1:laidOutB Tryz.prog=true:=by decide+kernel
theorem Qk2:mapsRowed Tryz.prog=true:=by decide+kernel
theorem Qk3:Tryz.f8.params.all (Tryz.prog.readableRec ·)=true:=by decide+kernel
theorem Qk4:namedTie Tryz.prog Rows.heditMovesRow.named Rows.heditMovesSpec.vars=true:=by decide+kernel
theorem Qk5:(Rows.heditMovesRow.stops==[])=true:=by decide+kernel
theorem Qk6:(Tryz.prog.stops==[])=true:=by decide+kernel
theorem Qk7:(Rows.heditMovesRow.knobs==[])=true:=by decide+kernel
theorem Qk8:(Tryz.prog.stopKnobs==[])=true:=by decide+kernel
theorem Qk9:(Rows.heditMovesRow.inPlace==Tryz.prog.inPlace 8)=true:=by decide+kernel
theorem aWb:(Rows.heditMovesRow.unfollowed==Tryz.prog.unfollowed 8)=true:=by decide+kernel
theorem aWc:(Rows.heditMovesRow.recurses==Tryz.prog.recurses 8)=true:=by decide+kernel
theorem aWd:(Rows.heditMovesRow.named==Tryz.prog.varsNamed 8)=true:=by decide+kernel
theorem aWe:(Rows.heditMovesRow.maps==(Tryz.f8.params.toList++Rows.heditMovesSpec.plain.varTypes Tryz.prog).any (Tryz.prog.mapsRec ·))=true:=by decide+kernel
theorem aWf:(Rows.heditMovesRow.ifaces==(Tryz.f8.params.toList++Rows.heditMovesSpec.plain.varTypes Tryz.prog).any (Tryz.prog.ifacesRec ·))=true:=by decide+kernel
theorem aWg:(Rows.heditMovesRow.mapsOut==Tryz.prog.mapsAmong Tryz.f8.resultTypes.toList)=true:=by decide+kernel
theorem aWh:(Rows.heditMovesRow.loops==(Tryz.f8.params.toList++Rows.heditMovesSpec.plain.varTypes Tryz.prog).any (Tryz.prog.loopsFrom ·))=true:=by decide+kernel
theorem aWi:(Rows.heditMovesRow.wideKeys==(Tryz.f8.params.toList++Rows.heditMovesSpec.plain.varTypes Tryz.prog++Tryz.f8.resultTypes.toList).any (Tryz.prog.wideKeysFrom ·))=true:=by decide+kernel
theorem aWj:Rows.heditMovesSpec.vars.all (Tryz.prog.varReadable ·)=true:=by decide+kernel
theorem aWk:Tryz.f8.resultTypes.all (fun t=>Tryz.prog.readableRec t&&decide (t<Tryz.prog.types.size))=true:=by decide+kernel
theorem aWl:(Rows.heditMovesRow.ifacesOut==Tryz.f8.resultTypes.toList.any (Tryz.prog.ifacesRec ·))=true:=by decide+kernel
theorem aWm:(Rows.heditMovesRow.loopsOut==Tryz.f8.resultTypes.toList.any (Tryz.prog.loopsFrom ·))=true:=by decide+kernel
theorem aWn:(Rows.heditMovesRow.plainKeys==Tryz.prog.plainKeys)=true:=by decide+kernel
theorem aWo:Rows.heditMovesRow.shortTexts.isNone=true:=by decide+kernel
theorem aWp:Tryz.prog.stopsHeard=true:=by decide+kernel
theorem aWq:Tryz.prog.mayEnter=true:=by decide+kernel
theorem aWr:(Rows.heditMovesRow.lifted==Tryz.prog.liftsFinal)=true:=by decide+kernel
theorem aWs:(Tryz.prog.make==some Rows.heditMovesRow.make)=true:=by decide+kernel
theorem aWt:(Rows.heditMovesRow.kinds==(if Rows.heditMovesRow.domain.isEmpty then [] else Tryz.f8.params.toList.map fun t=>match Tryz.prog.underlying t with|some (.int k)=>some k|_=>none))=true:=by decide+kernel
theorem aWu:(Rows.heditMovesRow.pinned==Rows.heditMovesRow.pinnedBy)=true:=by decide+kernel
theorem aWv:(Rows.heditMovesRow.veiled==(Tryz.f8.params.toList++Rows.heditMovesSpec.plain.varTypes Tryz.prog++Tryz.f8.resultTypes.toList).any (Tryz.prog.veiledRec ·))=true:=by decide+kernel
theorem aWw:Rows.heditMovesRow.veiledFits Tryz.prog Tryz.f8.params.toList (Tryz.f8.params.toList++Rows.heditMovesSpec.plain.varTypes Tryz.prog++Tryz.f8.resultTypes.toList)=true:=by decide+kernel
set_option maxRecDepth 100000 in
theorem aLi:joinedFacts Tryz.prog 8 Tryz.f8 Rows.heditMovesSpec Rows.heditMovesRow=true:=(qR (qR (qR (qR (qR (qR (qR (qR (qR (qR (qR (qR (qR (qR (qR (qR (qR (qR (qR (qR (qR (qR (qR (qR (qR (qR (qR (qR (qR (qR (qR Qk0 Qk1) Qk2) Qk3) Qk4) Qk5) Qk6) Qk7) Qk8) Qk9) aWb) aWc) aWd) aWe) aWf) aWg) aWh) aWi) aWj) aWk) aWl) aWm) aWn) aWo) aWp) aWq) aWr) aWs) aWt) aWu) aWv) aWw)
set_option maxRecDepth 100000 in
theorem aLj (os:Os) (started:os.Started) (H:Type) (enc:TypeId×Value->H):
 ReturnsInHanded {} Tryz.checked os 8 .any (Rows.heditMovesSpec.pre6 enc Tryz.prog Tryz.f8 Rows.heditMovesRow.domain false) (Rows.heditMovesSpec.post enc Tryz.prog Tryz.f8 false true false false):=by
 refine returnsInHanded_of_change (C:=Tryz.checked) aWa started (by kernel_rfl) Tryz.func8
  (ChangeSpec.witness6 (enc:=enc) (C:=Tryz.checked) false ⟨#[],#[.agg #[.int .i64 0,.int .i64 0,.slice none 0 0,.int .i64 0,.slice none 0 0,.slice none 0 0,.slice none 0 0,.slice none 0 0,.slice none 0 0,.slice none 0 0,.slice none 0 0,.slice none 0 0],.int .i64 0],[]⟩ 16 (by kernel_rfl) (by kernel_rfl) (by kernel_rfl) (by kernel_rfl)) ?_
 intro W base args ds gs before hval0 hW hcnd _;have hval: ∀(j:Nat) t v,Tryz.f8.params[j]? =some t->args[j]? =some v->Value.okWide Tryz.prog W .any base t v:=hval0;have hW':=hW;obtain ⟨p,q,hA0,hV,rfl,hfz,hnd⟩:=hW;have hA:DataW.TrodAll enc Tryz.prog W 0 (fun _=>true) true Tryz.f8.params.toList args.toList ds p:=hA0
 rw [Tryz.params8] at hA hval;obtain ⟨v0,vs0,d0,ds0,p0,q0,hargs,rfl,rfl,h0,r0⟩:=trodAll_cons hA;obtain ⟨v1,vs1,d1,ds1,p1,q1,rfl,rfl,rfl,h1,r1⟩:=trodAll_cons r0;obtain ⟨rfl,rfl,rfl⟩:=trodAll_nil r1;obtain rfl:args= #[v0,v1]:=by cases args;simp_all
 obtain ⟨rfl,rfl⟩:=trodVars_none hV;obtain ⟨_,g0,⟨a0,rfl,w0⟩,e0,k0⟩:=dA.argS aRE Tryz.underlying41 (hval 0 41 v0 rfl rfl) h0;obtain rfl:g0=(pvL (jH.enc a0)).getD []:=by rw [e0];rfl
 obtain ⟨a1,w1,k1⟩:=dA.argI Tryz.underlying3 (hval 1 3 v1 rfl rfl) h1;obtain ⟨n,s,z,hrun⟩:=aK.runA aTW aLF (a:=(a0,a1)) (C4 a0 a1 (aD2.of w0.clock.now w0.clock.agenda.heap)) (ps:=[.agg ((pvL (jH.enc a0)).getD []),.int .i64 a1]) rfl rfl
 refine (aA9 (P:=Tryz.prog) (prims:=fun _=>true) (TT.tabOK ZW) (TT.primsOK ZW) oL hrun (us:=[v0,v1]) (w:=W) (.cons _ _ _ _ k0 (.cons _ _ _ _ k1 (.nil)))).mono fun e W' ⟨he,hb⟩=>?_
 subst he;exact ⟨_,rfl,aCl (P:=Tryz.prog) (bt:=4) Qk1 rfl rfl (by kernel_rfl) (by
  rw [Tryz.params8];intro t ht;simp only [List.mem_cons,List.not_mem_nil,or_false] at ht;rcases ht with rfl|rfl
  · exact aUi
  · exact aV9) hW' rfl hb⟩
theorem heditMoves_holds:Rows.HeditMovesSaid:=
 OpenClaim.holds_of_wide 8 Tryz.f8 rfl rfl rfl rfl rfl rfl rfl ⟨rfl,rfl,rfl,rfl,rfl⟩ rfl rfl rfl rfl rfl (by kernel_rfl) Tryz.func8 aLi
  (of_decide_eq_true (by kernel_rfl)) (by unfold Func.isWrapper;first|(rw [if_pos (by decide+kernel)];kernel_rfl)|(rw [if_neg (by decide+kernel)];exact ⟨rfl,rfl⟩))
  (fun os started H enc _=>aLj os started H enc)
end Go.Proofs.YtfejhjllooomlaaGreat
