/- The law StretchHeap returns true: its plain function gives true whatever comes in. -/
import Derived.Test.YtclphlgnjkajbaaGreatRows
import Derived.Test.YtclphlgnjkajbaaGreatPQS2
import Derived.Test.YtclphlgnjkajbaaGreatPQM4
import Derived.Test.YtclphlgnjkajbaaGreatPVm3
open List renaming append_nil->v4
open Option renaming none->v6
open Bool renaming true->ww
namespace Go.Proofs.YtclphlgnjkajbaaGreat
open Go.ChangeShapes Go.WideShapes Go.ChangeAt Go.RowKit Go.Vm
theorem ahQ:bE Tryz.prog 5 (fc [.i .u8]):=bE.int Tryz.underlying5
theorem MN:bE Tryz.prog 2 (fc [.i .i64]):=bE.int Tryz.underlying2
theorem Lt:bE Tryz.prog 29 (fc [.i .i64,.i .i64]):=(bE.struct (Ks:=[(fc [.i .i64]),(fc [.i .i64])]) Tryz.underlying29 (aO.cons (by kernel_rfl) MN (aO.cons (by kernel_rfl) MN (aO.nil))) (by kernel_rfl)).mono (fun vs h=>kF (rs:=[[.i .i64],[.i .i64]]) h)
theorem rP:bE Tryz.prog 3 (fc [.i .i64]):=bE.int Tryz.underlying3
theorem ad5:bE Tryz.prog 53 (fc [.i .i64,.i .i64,.i .i64]):=(bE.struct (Ks:=[(fc [.i .i64]),(fc [.i .i64]),(fc [.i .i64])]) Tryz.underlying53 (aO.cons (by kernel_rfl) rP (aO.cons (by kernel_rfl) MN (aO.cons (by kernel_rfl) MN (aO.nil)))) (by kernel_rfl)).mono (fun vs h=>kF (rs:=[[.i .i64],[.i .i64],[.i .i64]]) h)
theorem ad6:bE Tryz.prog 30 (EM [.i .i64,.i .i64,.i .i64]):=bE.slice (r:=[.i .i64,.i .i64,.i .i64]) Tryz.underlying30 ad5 (by kernel_rfl) (by decide)
structure Field.WF (c:Field):Prop where
 am: ∀a∈c.am,RT.wf [.i .i64,.i .i64,.i .i64] a
def MO:List SV->Prop:=fun vs=> ∃c:Field,vs=fx.enc c/\c.WF
theorem ad7:bE Tryz.prog 32 MO:=(bE.struct (Ks:=[(EM [.i .i64,.i .i64,.i .i64])]) Tryz.underlying32 (aO.cons (by kernel_rfl) ad6 (aO.nil)) (by kernel_rfl)).mono (by rintro vs ⟨_,b0,rfl,⟨c0,rfl,w0⟩,rfl⟩;refine ⟨⟨c0⟩,?_,⟨w0⟩⟩;simp only [v4];rfl)
theorem X5:bE Tryz.prog 216 (fc [.i .i64,.i .i64]):=(bE.struct (Ks:=[(fc [.i .i64]),(fc [.i .i64])]) Tryz.underlying216 (aO.cons (by kernel_rfl) rP (aO.cons (by kernel_rfl) rP (aO.nil))) (by kernel_rfl)).mono (fun vs h=>kF (rs:=[[.i .i64],[.i .i64]]) h)
theorem X6:bE Tryz.prog 244 (fc [.i .i64,.i .i64,.i .i64]):=(bE.struct (Ks:=[(fc [.i .i64]),(fc [.i .i64,.i .i64])]) Tryz.underlying244 (aO.cons (by kernel_rfl) rP (aO.cons (by kernel_rfl) X5 (aO.nil))) (by kernel_rfl)).mono (fun vs h=>kF (rs:=[[.i .i64],[.i .i64,.i .i64]]) h)
theorem ad8:bE Tryz.prog 33 (EM [.i .i64,.i .i64,.i .i64]):=bE.slice (r:=[.i .i64,.i .i64,.i .i64]) Tryz.underlying33 X6 (by kernel_rfl) (by decide)
structure aX.WF (c:aX):Prop where
 ay:RT.wf [.i .i64] c.ay
 ce: ∀a∈c.ce,RT.wf [.i .i64,.i .i64,.i .i64] a
def MP:List SV->Prop:=fun vs=> ∃c:aX,vs=kH.enc c/\c.WF
theorem ad9:bE Tryz.prog 35 MP:=(bE.struct (Ks:=[(fc [.i .i64]),(EM [.i .i64,.i .i64,.i .i64])]) Tryz.underlying35 (aO.cons (by kernel_rfl) rP (aO.cons (by kernel_rfl) ad8 (aO.nil))) (by kernel_rfl)).mono (by rintro vs ⟨_,b0,rfl,⟨c0,rfl,w0⟩,_,b1,rfl,⟨c1,rfl,w1⟩,rfl⟩;refine ⟨⟨c0,c1⟩,?_,⟨w0,w1⟩⟩;simp only [v4];rfl)
theorem zc:bE Tryz.prog 24 (EM [.i .i64]):=bE.slice (r:=[.i .i64]) Tryz.underlying24 rP (by kernel_rfl) (by decide)
theorem ahR:bE Tryz.prog 4 (fc [.b]):=bE.bool Tryz.underlying4
theorem aea:bE Tryz.prog 22 (EM [.b]):=bE.slice (r:=[.b]) Tryz.underlying22 ahR (by kernel_rfl) (by decide)
structure aQ.WF (c:aQ):Prop where
 au: ∀a∈c.au,RT.wf [.i .i64] a
 be: ∀a∈c.be,RT.wf [.b] a
 bi: ∀a∈c.bi,RT.wf [.i .i64] a
def MQ:List SV->Prop:=fun vs=> ∃c:aQ,vs=kG.enc c/\c.WF
theorem aeb:bE Tryz.prog 37 MQ:=(bE.struct (Ks:=[(EM [.i .i64]),(EM [.b]),(EM [.i .i64])]) Tryz.underlying37 (aO.cons (by kernel_rfl) zc (aO.cons (by kernel_rfl) aea (aO.cons (by kernel_rfl) zc (aO.nil)))) (by kernel_rfl)).mono (by rintro vs ⟨_,b0,rfl,⟨c0,rfl,w0⟩,_,b1,rfl,⟨c1,rfl,w1⟩,_,b2,rfl,⟨c2,rfl,w2⟩,rfl⟩;refine ⟨⟨c0,c1,c2⟩,?_,⟨w0,w1,w2⟩⟩;simp only [v4];rfl)
theorem MR:bE Tryz.prog 221 (fc [.i .i64,.i .i64]):=(bE.struct (Ks:=[(fc [.i .i64]),(fc [.i .i64])]) Tryz.underlying221 (aO.cons (by kernel_rfl) rP (aO.cons (by kernel_rfl) rP (aO.nil))) (by kernel_rfl)).mono (fun vs h=>kF (rs:=[[.i .i64],[.i .i64]]) h)
theorem X7:bE Tryz.prog 223 (fc [.i .i64,.i .i64,.i .i64,.i .i64,.i .i64]):=(bE.struct (Ks:=[(fc [.i .i64,.i .i64]),(fc [.i .i64]),(fc [.i .i64,.i .i64])]) Tryz.underlying223 (aO.cons (by kernel_rfl) Lt (aO.cons (by kernel_rfl) rP (aO.cons (by kernel_rfl) MR (aO.nil)))) (by kernel_rfl)).mono (fun vs h=>kF (rs:=[[.i .i64,.i .i64],[.i .i64],[.i .i64,.i .i64]]) h)
theorem aec:bE Tryz.prog 38 (EM [.i .i64,.i .i64,.i .i64,.i .i64,.i .i64]):=bE.slice (r:=[.i .i64,.i .i64,.i .i64,.i .i64,.i .i64]) Tryz.underlying38 X7 (by kernel_rfl) (by decide)
structure aF.WF (c:aF):Prop where
 ae:aQ.WF c.ae
 bv: ∀a∈c.bv,RT.wf [.i .i64,.i .i64,.i .i64,.i .i64,.i .i64] a
 aj: ∀a∈c.aj,RT.wf [.i .i64] a
def Jz:List SV->Prop:=fun vs=> ∃c:aF,vs=eQ.enc c/\c.WF
theorem aed:bE Tryz.prog 40 Jz:=(bE.struct (Ks:=[MQ,(EM [.i .i64,.i .i64,.i .i64,.i .i64,.i .i64]),(EM [.i .i64])]) Tryz.underlying40 (aO.cons (by kernel_rfl) aeb (aO.cons (by kernel_rfl) aec (aO.cons (by kernel_rfl) zc (aO.nil)))) (by kernel_rfl)).mono (by rintro vs ⟨_,b0,rfl,⟨c0,rfl,w0⟩,_,b1,rfl,⟨c1,rfl,w1⟩,_,b2,rfl,⟨c2,rfl,w2⟩,rfl⟩;refine ⟨⟨c0,c1,c2⟩,?_,⟨w0,w1,w2⟩⟩;simp only [v4];rfl)
theorem X8:bE Tryz.prog 248 (fc [.i .i64,.i .i64,.i .i64]):=(bE.struct (Ks:=[(fc [.i .i64]),(fc [.i .i64,.i .i64])]) Tryz.underlying248 (aO.cons (by kernel_rfl) rP (aO.cons (by kernel_rfl) MR (aO.nil))) (by kernel_rfl)).mono (fun vs h=>kF (rs:=[[.i .i64],[.i .i64,.i .i64]]) h)
theorem aee:bE Tryz.prog 41 (EM [.i .i64,.i .i64,.i .i64]):=bE.slice (r:=[.i .i64,.i .i64,.i .i64]) Tryz.underlying41 X8 (by kernel_rfl) (by decide)
structure aG.WF (c:aG):Prop where
 ci:RT.wf [.i .i64,.i .i64] c.ci
 ii:Field.WF c.ii
 af:aX.WF c.af
 aa:aF.WF c.aa
 io: ∀a∈c.io,RT.wf [.i .i64,.i .i64,.i .i64] a
def Al:List SV->Prop:=fun vs=> ∃c:aG,vs=cO.enc c/\c.WF
theorem G5:bE Tryz.prog 43 Al:=(bE.struct (Ks:=[(fc [.i .i64,.i .i64]),MO,MP,Jz,(EM [.i .i64,.i .i64,.i .i64])]) Tryz.underlying43 (aO.cons (by kernel_rfl) Lt (aO.cons (by kernel_rfl) ad7 (aO.cons (by kernel_rfl) ad9 (aO.cons (by kernel_rfl) aed (aO.cons (by kernel_rfl) aee (aO.nil)))))) (by kernel_rfl)).mono (by
 rintro vs ⟨_,b0,rfl,⟨c0,rfl,w0⟩,_,b1,rfl,⟨c1,rfl,w1⟩,_,b2,rfl,⟨c2,rfl,w2⟩,_,b3,rfl,⟨c3,rfl,w3⟩,_,b4,rfl,⟨c4,rfl,w4⟩,rfl⟩;refine ⟨⟨c0,c1,c2,c3,c4⟩,?_,⟨w0,w1,w2,w3,w4⟩⟩;simp only [v4];rfl)
structure bJ.WF (c:bJ):Prop where
 jp:aG.WF c.jp
 bv: ∀a∈c.bv,RT.wf [.i .i64] a
def MS:List SV->Prop:=fun vs=> ∃c:bJ,vs=mG.enc c/\c.WF
theorem aef:bE Tryz.prog 57 MS:=(bE.struct (Ks:=[Al,(EM [.i .i64])]) Tryz.underlying57 (aO.cons (by kernel_rfl) G5 (aO.cons (by kernel_rfl) zc (aO.nil))) (by kernel_rfl)).mono (by rintro vs ⟨_,b0,rfl,⟨c0,rfl,w0⟩,_,b1,rfl,⟨c1,rfl,w1⟩,rfl⟩;refine ⟨⟨c0,c1⟩,?_,⟨w0,w1⟩⟩;simp only [v4];rfl)
structure eS.WF (c:eS):Prop where
 bM: ∀a∈c.bM,RT.wf [.i .i64] a
 fC: ∀a∈c.fC,RT.wf [.i .i64] a
def FQ:List SV->Prop:=fun vs=> ∃c:eS,vs=s9.enc c/\c.WF
theorem aeg:bE Tryz.prog 45 FQ:=(bE.struct (Ks:=[(EM [.i .i64]),(EM [.i .i64])]) Tryz.underlying45 (aO.cons (by kernel_rfl) zc (aO.cons (by kernel_rfl) zc (aO.nil))) (by kernel_rfl)).mono (by rintro vs ⟨_,b0,rfl,⟨c0,rfl,w0⟩,_,b1,rfl,⟨c1,rfl,w1⟩,rfl⟩;refine ⟨⟨c0,c1⟩,?_,⟨w0,w1⟩⟩;simp only [v4];rfl)
structure dM.WF (c:dM):Prop where
 jp:aG.WF c.jp
 kw:eS.WF c.kw
def JA:List SV->Prop:=fun vs=> ∃c:dM,vs=we.enc c/\c.WF
theorem aeh:bE Tryz.prog 47 JA:=(bE.struct (Ks:=[Al,FQ]) Tryz.underlying47 (aO.cons (by kernel_rfl) G5 (aO.cons (by kernel_rfl) aeg (aO.nil))) (by kernel_rfl)).mono (by rintro vs ⟨_,b0,rfl,⟨c0,rfl,w0⟩,_,b1,rfl,⟨c1,rfl,w1⟩,rfl⟩;refine ⟨⟨c0,c1⟩,?_,⟨w0,w1⟩⟩;simp only [v4];rfl)
theorem X9:bE Tryz.prog 295 (fc [.i .i64,.i .i64,.i .i64]):=(bE.struct (Ks:=[(fc [.i .i64]),(fc [.i .i64]),(fc [.i .i64])]) Tryz.underlying295 (aO.cons (by kernel_rfl) rP (aO.cons (by kernel_rfl) rP (aO.cons (by kernel_rfl) rP (aO.nil)))) (by kernel_rfl)).mono (fun vs h=>kF (rs:=[[.i .i64],[.i .i64],[.i .i64]]) h)
theorem aei:bE Tryz.prog 58 (EM [.i .i64,.i .i64,.i .i64]):=bE.slice (r:=[.i .i64,.i .i64,.i .i64]) Tryz.underlying58 X9 (by kernel_rfl) (by decide)
structure Tree.WF (c:Tree):Prop where
 lc:RT.wf [.i .i64] c.lc
 lm: ∀a∈c.lm,RT.wf [.i .i64,.i .i64,.i .i64] a
def Rn:List SV->Prop:=fun vs=> ∃c:Tree,vs=DN.enc c/\c.WF
theorem aej:bE Tryz.prog 60 Rn:=(bE.struct (Ks:=[(fc [.i .i64]),(EM [.i .i64,.i .i64,.i .i64])]) Tryz.underlying60 (aO.cons (by kernel_rfl) rP (aO.cons (by kernel_rfl) aei (aO.nil))) (by kernel_rfl)).mono (by rintro vs ⟨_,b0,rfl,⟨c0,rfl,w0⟩,_,b1,rfl,⟨c1,rfl,w1⟩,rfl⟩;refine ⟨⟨c0,c1⟩,?_,⟨w0,w1⟩⟩;simp only [v4];rfl)
structure ek.WF (c:ek):Prop where
 jp:aG.WF c.jp
 ls:Tree.WF c.ls
def JB:List SV->Prop:=fun vs=> ∃c:ek,vs=wg.enc c/\c.WF
theorem aek:bE Tryz.prog 62 JB:=(bE.struct (Ks:=[Al,Rn]) Tryz.underlying62 (aO.cons (by kernel_rfl) G5 (aO.cons (by kernel_rfl) aej (aO.nil))) (by kernel_rfl)).mono (by rintro vs ⟨_,b0,rfl,⟨c0,rfl,w0⟩,_,b1,rfl,⟨c1,rfl,w1⟩,rfl⟩;refine ⟨⟨c0,c1⟩,?_,⟨w0,w1⟩⟩;simp only [v4];rfl)
structure dD.WF (c:dD):Prop where
 jp:aG.WF c.jp
 up: ∀a∈c.up,RT.wf [.i .i64] a
def JC:List SV->Prop:=fun vs=> ∃c:dD,vs=wj.enc c/\c.WF
theorem ael:bE Tryz.prog 64 JC:=(bE.struct (Ks:=[Al,(EM [.i .i64])]) Tryz.underlying64 (aO.cons (by kernel_rfl) G5 (aO.cons (by kernel_rfl) zc (aO.nil))) (by kernel_rfl)).mono (by rintro vs ⟨_,b0,rfl,⟨c0,rfl,w0⟩,_,b1,rfl,⟨c1,rfl,w1⟩,rfl⟩;refine ⟨⟨c0,c1⟩,?_,⟨w0,w1⟩⟩;simp only [v4];rfl)
structure Choice.WF (c:Choice):Prop where
 lw:RT.wf [.i .u8] c.lw
 bv:bJ.WF c.bv
 ar:dM.WF c.ar
 ao:ek.WF c.ao
 aq:dD.WF c.aq
def Ro:List SV->Prop:=fun vs=> ∃c:Choice,vs=ew.enc c/\c.WF
theorem aem:bE Tryz.prog 66 Ro:=(bE.struct (Ks:=[(fc [.i .u8]),MS,JA,JB,JC]) Tryz.underlying66 (aO.cons (by kernel_rfl) ahQ (aO.cons (by kernel_rfl) aef (aO.cons (by kernel_rfl) aeh (aO.cons (by kernel_rfl) aek (aO.cons (by kernel_rfl) ael (aO.nil)))))) (by kernel_rfl)).mono (by rintro vs ⟨_,b0,rfl,⟨c0,rfl,w0⟩,_,b1,rfl,⟨c1,rfl,w1⟩,_,b2,rfl,⟨c2,rfl,w2⟩,_,b3,rfl,⟨c3,rfl,w3⟩,_,b4,rfl,⟨c4,rfl,w4⟩,rfl⟩;refine ⟨⟨c0,c1,c2,c3,c4⟩,?_,⟨w0,w1,w2,w3,w4⟩⟩;simp only [v4];rfl)
theorem ahS:Tryz.prog.readableRec 66=ww/\66<Tryz.prog.types.size:=⟨by kernel_rfl,of_decide_eq_true (by kernel_rfl)⟩
theorem ahT:Tryz.prog.readableRec 29=ww/\29<Tryz.prog.types.size:=⟨by kernel_rfl,of_decide_eq_true (by kernel_rfl)⟩
theorem amf:ownKnob Tryz.prog.godebug=v6:=by kernel_rfl
theorem lF {a b:Bool} (h:a=ww) (k:b=ww):(a&&b)=ww:=by rw [h,k];rfl
theorem Qk0:Rows.stretchHeapRow.wf (OpenSpec.ofChange Rows.stretchHeapSpec)=ww:=by decide+kernel
theorem Qk1:laidOutB Tryz.prog=ww:=by decide+kernel
theorem Qk2:mapsRowed Tryz.prog=ww:=by decide+kernel
theorem Qk3:Tryz.f6.params.all (Tryz.prog.readableRec ·)=ww:=by decide+kernel
theorem Qk4:namedTie Tryz.prog Rows.stretchHeapRow.named Rows.stretchHeapSpec.vars=ww:=by decide+kernel
theorem Qk5:(Rows.stretchHeapRow.stops==[])=ww:=by decide+kernel
theorem Qk6:(Tryz.prog.stops==[])=ww:=by decide+kernel
theorem Qk7:(Rows.stretchHeapRow.knobs==[])=ww:=by decide+kernel
theorem Qk8:(Tryz.prog.stopKnobs==[])=ww:=by decide+kernel
theorem Qk9:(Rows.stretchHeapRow.inPlace==Tryz.prog.inPlace 6)=ww:=by decide+kernel
theorem amg:(Rows.stretchHeapRow.unfollowed==Tryz.prog.unfollowed 6)=ww:=by decide+kernel
theorem amh:(Rows.stretchHeapRow.recurses==Tryz.prog.recurses 6)=ww:=by decide+kernel
theorem ami:(Rows.stretchHeapRow.named==Tryz.prog.varsNamed 6)=ww:=by decide+kernel
theorem amj:(Rows.stretchHeapRow.maps==(Tryz.f6.params.toList++Rows.stretchHeapSpec.plain.varTypes Tryz.prog).any (Tryz.prog.mapsRec ·))=ww:=by decide+kernel
theorem amk:(Rows.stretchHeapRow.ifaces==(Tryz.f6.params.toList++Rows.stretchHeapSpec.plain.varTypes Tryz.prog).any (Tryz.prog.ifacesRec ·))=ww:=by decide+kernel
theorem aml:(Rows.stretchHeapRow.mapsOut==Tryz.prog.mapsAmong Tryz.f6.resultTypes.toList)=ww:=by decide+kernel
theorem amm:(Rows.stretchHeapRow.loops==(Tryz.f6.params.toList++Rows.stretchHeapSpec.plain.varTypes Tryz.prog).any (Tryz.prog.loopsFrom ·))=ww:=by decide+kernel
theorem amn:(Rows.stretchHeapRow.wideKeys==(Tryz.f6.params.toList++Rows.stretchHeapSpec.plain.varTypes Tryz.prog++Tryz.f6.resultTypes.toList).any (Tryz.prog.wideKeysFrom ·))=ww:=by decide+kernel
theorem amo:Rows.stretchHeapSpec.vars.all (Tryz.prog.varReadable ·)=ww:=by decide+kernel
theorem amp:Tryz.f6.resultTypes.all (fun t=>Tryz.prog.readableRec t&&decide (t<Tryz.prog.types.size))=ww:=by decide+kernel
theorem amq:(Rows.stretchHeapRow.ifacesOut==Tryz.f6.resultTypes.toList.any (Tryz.prog.ifacesRec ·))=ww:=by decide+kernel
theorem amr:(Rows.stretchHeapRow.loopsOut==Tryz.f6.resultTypes.toList.any (Tryz.prog.loopsFrom ·))=ww:=by decide+kernel
theorem ams:(Rows.stretchHeapRow.plainKeys==Tryz.prog.plainKeys)=ww:=by decide+kernel
theorem amt:Rows.stretchHeapRow.shortTexts.isNone=ww:=by decide+kernel
theorem amu:Tryz.prog.stopsHeard=ww:=by decide+kernel
theorem amv:Tryz.prog.mayEnter=ww:=by decide+kernel
theorem amw:(Rows.stretchHeapRow.lifted==Tryz.prog.liftsFinal)=ww:=by decide+kernel
theorem amx:(Tryz.prog.make==some Rows.stretchHeapRow.make)=ww:=by decide+kernel
theorem amy:(Rows.stretchHeapRow.kinds==(if Rows.stretchHeapRow.domain.isEmpty then [] else Tryz.f6.params.toList.map fun t=>match Tryz.prog.underlying t with|some (.int k)=>some k|_=>v6))=ww:=by decide+kernel
theorem amz:(Rows.stretchHeapRow.pinned==Rows.stretchHeapRow.pinnedBy)=ww:=by decide+kernel
theorem amA:(Rows.stretchHeapRow.veiled==(Tryz.f6.params.toList++Rows.stretchHeapSpec.plain.varTypes Tryz.prog++Tryz.f6.resultTypes.toList).any (Tryz.prog.veiledRec ·))=ww:=by decide+kernel
theorem amB:Rows.stretchHeapRow.veiledFits Tryz.prog Tryz.f6.params.toList (Tryz.f6.params.toList++Rows.stretchHeapSpec.plain.varTypes Tryz.prog++Tryz.f6.resultTypes.toList)=ww:=by decide+kernel
set_option maxRecDepth 100000 in
theorem X':joinedFacts Tryz.prog 6 Tryz.f6 Rows.stretchHeapSpec Rows.stretchHeapRow=ww:=(lF (lF (lF (lF (lF (lF (lF (lF (lF (lF (lF (lF (lF (lF (lF (lF (lF (lF (lF (lF (lF (lF (lF (lF (lF (lF (lF (lF (lF (lF (lF Qk0 Qk1) Qk2) Qk3) Qk4) Qk5) Qk6) Qk7) Qk8) Qk9) amg) amh) ami) amj) amk) aml) amm) amn) amo) amp) amq) amr) ams) amt) amu) amv) amw) amx) amy) amz) amA) amB)
set_option maxRecDepth 100000 in
theorem Ya (os:Os) (started:os.Started) (H:Type) (enc:TypeId×Value->H):
 ReturnsInHanded {} Tryz.checked os 6 .any (Rows.stretchHeapSpec.pre6 enc Tryz.prog Tryz.f6 Rows.stretchHeapRow.domain false) (Rows.stretchHeapSpec.post enc Tryz.prog Tryz.f6 false ww false false):=by
 refine returnsInHanded_of_change (C:=Tryz.checked) amf started (by kernel_rfl) Tryz.func6
  (ChangeSpec.witness6 (enc:=enc) (C:=Tryz.checked) false ⟨#[],#[.agg #[.int .u8 0,.int .i64 0,.int .i64 0,.slice v6 0 0,.int .i64 0,.slice v6 0 0,.slice v6 0 0,.slice v6 0 0,.slice v6 0 0,.slice v6 0 0,.slice v6 0 0,.slice v6 0 0,.slice v6 0 0,.int .i64 0,.int .i64 0,.slice v6 0 0,.int .i64 0,.slice v6 0 0,.slice v6 0 0,.slice v6 0 0,.slice v6 0 0,.slice v6 0 0,.slice v6 0 0,.slice v6 0 0,.slice v6 0 0,.slice v6 0 0,.int .i64 0,.int .i64 0,.slice v6 0 0,.int .i64 0,.slice v6 0 0,.slice v6 0 0,.slice v6 0 0,.slice v6 0 0,.slice v6 0 0,.slice v6 0 0,.slice v6 0 0,.int .i64 0,.slice v6 0 0,.int .i64 0,.int .i64 0,.slice v6 0 0,.int .i64 0,.slice v6 0 0,.slice v6 0 0,.slice v6 0 0,.slice v6 0 0,.slice v6 0 0,.slice v6 0 0,.slice v6 0 0,.slice v6 0 0],.agg #[.int .i64 0,.int .i64 0]],[]⟩ 16 (by kernel_rfl) (by kernel_rfl) (by kernel_rfl) (by kernel_rfl)) ?_
 intro W qo args ds gs before ahU hW Sp _;have PY: ∀(j:Nat) t v,Tryz.f6.params[j]? =some t->args[j]? =some v->Value.okWide Tryz.prog W .any qo t v:=ahU;have hW':=hW;obtain ⟨p,q,hA0,hV,rfl,OF,Ex⟩:=hW;have hA:DataW.TrodAll enc Tryz.prog W 0 (fun _=>ww) ww Tryz.f6.params.toList args.toList ds p:=hA0;rw [Tryz.params6] at hA PY;obtain ⟨v0,vs0,d0,ds0,p0,q0,jP,rfl,rfl,h0,r0⟩:=trodAll_cons hA;obtain ⟨v1,vs1,d1,ds1,p1,q1,rfl,rfl,rfl,h1,r1⟩:=trodAll_cons r0;obtain ⟨rfl,rfl,rfl⟩:=trodAll_nil r1;obtain rfl:args= #[v0,v1]:=by cases args;simp_all
 obtain ⟨rfl,rfl⟩:=trodVars_none hV;obtain ⟨_,g0,⟨a0,rfl,w0⟩,e0,k0⟩:=bE.agi aem Tryz.underlying66 (PY 0 66 v0 rfl rfl) h0;obtain rfl:g0=(pq (ew.enc a0)).getD []:=by rw [e0];rfl
 obtain ⟨_,g1,⟨a1,rfl,w1⟩,e1,k1⟩:=bE.agi Lt Tryz.underlying29 (PY 1 29 v1 rfl rfl) h1;obtain rfl:g1=(pq (RT.sv [.i .i64,.i .i64] a1)).getD []:=by rw [e1];rfl
 obtain ⟨n,s,z,bQ⟩:=eg.aj0 c6.ok YZ (a:=(a0,a1)) (uR a0 a1 (B7.of w0.bv.jp.ci w0.bv.jp.aa.bv) ⟨wf_i64 w1.1,wf_i64 w1.2⟩) (ps:=[.agg ((pq (ew.enc a0)).getD []),.agg ((pq (RT.sv [.i .i64,.i .i64] a1)).getD [])]) rfl rfl;refine (Ny (P:=Tryz.prog) (prims:=fun _=>ww) (TT.afM Mk) (TT.R9 Mk) j9 bQ (us:=[v0,v1]) (w:=W) (.cons _ _ _ _ k0 (.cons _ _ _ _ k1 (.nil)))).mono fun e W' ⟨he,hb⟩=>?_
 subst he;exact ⟨_,rfl,Pr (P:=Tryz.prog) (bt:=4) Qk1 rfl rfl (by kernel_rfl) (by
  rw [Tryz.params6];intro t ht;simp only [List.mem_cons,List.not_mem_nil,or_false] at ht;rcases ht with rfl|rfl
  · exact ahS
  exact ahT) hW' rfl hb⟩
theorem stretchHeap_holds:Rows.StretchHeapSaid:=
 OpenClaim.holds_of_wide 6 Tryz.f6 rfl rfl rfl rfl rfl rfl rfl ⟨rfl,rfl,rfl,rfl,rfl⟩ rfl rfl rfl rfl rfl (by kernel_rfl) Tryz.func6 X'
  (of_decide_eq_true (by kernel_rfl)) (by unfold Func.isWrapper;first|(rw [rc (by decide+kernel)];kernel_rfl)|(rw [ut (by decide+kernel)];exact ⟨rfl,rfl⟩))
  (fun os started H enc _=>Ya os started H enc)
end Go.Proofs.YtclphlgnjkajbaaGreat
