/- The law KheapRenews returns true: its plain function gives true whatever comes in. -/
import Derived.Test.YtjikemfbommnlaaGreatRows
import Derived.Test.YtjikemfbommnlaaGreatRQS2
import Derived.Test.YtjikemfbommnlaaGreatRQM2
import Derived.Test.YtjikemfbommnlaaGreatRVm3
namespace Go.Proofs.YtjikemfbommnlaaGreat
open Go.ChangeShapes Go.WideShapes Go.ChangeAt Go.RowKit Go.Vm
theorem Qfit2:FitsP Tryz.prog 2 (KRow [.i .i64]):=FitsP.int Tryz.underlying2
theorem Qfit23:FitsP Tryz.prog 23 (KRow [.i .i64,.i .i64]):=(FitsP.struct (Ks:=[(KRow [.i .i64]),(KRow [.i .i64])]) Tryz.underlying23 (FieldsOK.cons (by kernel_rfl) Qfit2 (FieldsOK.cons (by kernel_rfl) Qfit2 (FieldsOK.nil))) (by kernel_rfl)).mono (fun vs h=>kAll_rows (rs:=[[.i .i64],[.i .i64]]) h)
theorem Qfit3:FitsP Tryz.prog 3 (KRow [.i .i64]):=FitsP.int Tryz.underlying3
theorem Qfit61:FitsP Tryz.prog 61 (KRow [.i .i64,.i .i64,.i .i64]):=(FitsP.struct (Ks:=[(KRow [.i .i64]),(KRow [.i .i64]),(KRow [.i .i64])]) Tryz.underlying61 (FieldsOK.cons (by kernel_rfl) Qfit3 (FieldsOK.cons (by kernel_rfl) Qfit2 (FieldsOK.cons (by kernel_rfl) Qfit2 (FieldsOK.nil)))) (by kernel_rfl)).mono (fun vs h=>kAll_rows (rs:=[[.i .i64],[.i .i64],[.i .i64]]) h)
theorem Qfit24:FitsP Tryz.prog 24 (KSl [.i .i64,.i .i64,.i .i64]):=FitsP.slice (r:=[.i .i64,.i .i64,.i .i64]) Tryz.underlying24 Qfit61 (by kernel_rfl) (by decide)
structure Field.WF (c:Field):Prop where
 points: ∀a∈c.points,RT.wf [.i .i64,.i .i64,.i .i64] a
def QKField:List SV->Prop:=fun vs=> ∃c:Field,vs=Field_c.enc c/\c.WF
theorem Qfit26:FitsP Tryz.prog 26 QKField:=(FitsP.struct (Ks:=[(KSl [.i .i64,.i .i64,.i .i64])]) Tryz.underlying26 (FieldsOK.cons (by kernel_rfl) Qfit24 (FieldsOK.nil)) (by kernel_rfl)).mono (by
 rintro vs ⟨_,b0,rfl,⟨c0,rfl,w0⟩,rfl⟩;refine ⟨⟨c0⟩,?_,⟨w0⟩⟩;simp only [List.append_nil]
 rfl)
theorem Qfit58:FitsP Tryz.prog 58 (KRow [.i .i64,.i .i64]):=(FitsP.struct (Ks:=[(KRow [.i .i64]),(KRow [.i .i64])]) Tryz.underlying58 (FieldsOK.cons (by kernel_rfl) Qfit3 (FieldsOK.cons (by kernel_rfl) Qfit3 (FieldsOK.nil))) (by kernel_rfl)).mono (fun vs h=>kAll_rows (rs:=[[.i .i64],[.i .i64]]) h)
theorem Qfit81:FitsP Tryz.prog 81 (KRow [.i .i64,.i .i64,.i .i64]):=(FitsP.struct (Ks:=[(KRow [.i .i64]),(KRow [.i .i64,.i .i64])]) Tryz.underlying81 (FieldsOK.cons (by kernel_rfl) Qfit3 (FieldsOK.cons (by kernel_rfl) Qfit58 (FieldsOK.nil))) (by kernel_rfl)).mono (fun vs h=>kAll_rows (rs:=[[.i .i64],[.i .i64,.i .i64]]) h)
theorem Qfit27:FitsP Tryz.prog 27 (KSl [.i .i64,.i .i64,.i .i64]):=FitsP.slice (r:=[.i .i64,.i .i64,.i .i64]) Tryz.underlying27 Qfit81 (by kernel_rfl) (by decide)
structure Certs.WF (c:Certs):Prop where
 next_:RT.wf [.i .i64] c.next_
 list: ∀a∈c.list,RT.wf [.i .i64,.i .i64,.i .i64] a
def QKCerts:List SV->Prop:=fun vs=> ∃c:Certs,vs=Certs_c.enc c/\c.WF
theorem Qfit29:FitsP Tryz.prog 29 QKCerts:=(FitsP.struct (Ks:=[(KRow [.i .i64]),(KSl [.i .i64,.i .i64,.i .i64])]) Tryz.underlying29 (FieldsOK.cons (by kernel_rfl) Qfit3 (FieldsOK.cons (by kernel_rfl) Qfit27 (FieldsOK.nil))) (by kernel_rfl)).mono (by
 rintro vs ⟨_,b0,rfl,⟨c0,rfl,w0⟩,_,b1,rfl,⟨c1,rfl,w1⟩,rfl⟩;refine ⟨⟨c0,c1⟩,?_,⟨w0,w1⟩⟩;simp only [List.append_nil]
 rfl)
theorem Qfit30:FitsP Tryz.prog 30 (KSl [.i .i64]):=FitsP.slice (r:=[.i .i64]) Tryz.underlying30 Qfit3 (by kernel_rfl) (by decide)
theorem Qfit4:FitsP Tryz.prog 4 (KRow [.b]):=FitsP.bool Tryz.underlying4
theorem Qfit31:FitsP Tryz.prog 31 (KSl [.b]):=FitsP.slice (r:=[.b]) Tryz.underlying31 Qfit4 (by kernel_rfl) (by decide)
structure Slots.WF (c:Slots):Prop where
 uses: ∀a∈c.uses,RT.wf [.i .i64] a
 used: ∀a∈c.used,RT.wf [.b] a
 free: ∀a∈c.free,RT.wf [.i .i64] a
def QKSlots:List SV->Prop:=fun vs=> ∃c:Slots,vs=Slots_c.enc c/\c.WF
theorem Qfit33:FitsP Tryz.prog 33 QKSlots:=(FitsP.struct (Ks:=[(KSl [.i .i64]),(KSl [.b]),(KSl [.i .i64])]) Tryz.underlying33 (FieldsOK.cons (by kernel_rfl) Qfit30 (FieldsOK.cons (by kernel_rfl) Qfit31 (FieldsOK.cons (by kernel_rfl) Qfit30 (FieldsOK.nil)))) (by kernel_rfl)).mono (by
 rintro vs ⟨_,b0,rfl,⟨c0,rfl,w0⟩,_,b1,rfl,⟨c1,rfl,w1⟩,_,b2,rfl,⟨c2,rfl,w2⟩,rfl⟩;refine ⟨⟨c0,c1,c2⟩,?_,⟨w0,w1,w2⟩⟩;simp only [List.append_nil]
 rfl)
theorem Qfit71:FitsP Tryz.prog 71 (KRow [.i .i64,.i .i64]):=(FitsP.struct (Ks:=[(KRow [.i .i64]),(KRow [.i .i64])]) Tryz.underlying71 (FieldsOK.cons (by kernel_rfl) Qfit3 (FieldsOK.cons (by kernel_rfl) Qfit3 (FieldsOK.nil))) (by kernel_rfl)).mono (fun vs h=>kAll_rows (rs:=[[.i .i64],[.i .i64]]) h)
theorem Qfit85:FitsP Tryz.prog 85 (KRow [.i .i64,.i .i64,.i .i64,.i .i64,.i .i64]):=(FitsP.struct (Ks:=[(KRow [.i .i64,.i .i64]),(KRow [.i .i64]),(KRow [.i .i64,.i .i64])]) Tryz.underlying85 (FieldsOK.cons (by kernel_rfl) Qfit23 (FieldsOK.cons (by kernel_rfl) Qfit3 (FieldsOK.cons (by kernel_rfl) Qfit71 (FieldsOK.nil)))) (by kernel_rfl)).mono (fun vs h=>kAll_rows (rs:=[[.i .i64,.i .i64],[.i .i64],[.i .i64,.i .i64]]) h)
theorem Qfit34:FitsP Tryz.prog 34 (KSl [.i .i64,.i .i64,.i .i64,.i .i64,.i .i64]):=FitsP.slice (r:=[.i .i64,.i .i64,.i .i64,.i .i64,.i .i64]) Tryz.underlying34 Qfit85 (by kernel_rfl) (by decide)
structure Agenda.WF (c:Agenda):Prop where
 slots:Slots.WF c.slots
 heap: ∀a∈c.heap,RT.wf [.i .i64,.i .i64,.i .i64,.i .i64,.i .i64] a
 where_: ∀a∈c.where_,RT.wf [.i .i64] a
def QKAgenda:List SV->Prop:=fun vs=> ∃c:Agenda,vs=Agenda_c.enc c/\c.WF
theorem Qfit36:FitsP Tryz.prog 36 QKAgenda:=(FitsP.struct (Ks:=[QKSlots,(KSl [.i .i64,.i .i64,.i .i64,.i .i64,.i .i64]),(KSl [.i .i64])]) Tryz.underlying36 (FieldsOK.cons (by kernel_rfl) Qfit33 (FieldsOK.cons (by kernel_rfl) Qfit34 (FieldsOK.cons (by kernel_rfl) Qfit30 (FieldsOK.nil)))) (by kernel_rfl)).mono (by
 rintro vs ⟨_,b0,rfl,⟨c0,rfl,w0⟩,_,b1,rfl,⟨c1,rfl,w1⟩,_,b2,rfl,⟨c2,rfl,w2⟩,rfl⟩;refine ⟨⟨c0,c1,c2⟩,?_,⟨w0,w1,w2⟩⟩;simp only [List.append_nil]
 rfl)
theorem Qfit73:FitsP Tryz.prog 73 (KRow [.i .i64,.i .i64,.i .i64]):=(FitsP.struct (Ks:=[(KRow [.i .i64]),(KRow [.i .i64,.i .i64])]) Tryz.underlying73 (FieldsOK.cons (by kernel_rfl) Qfit3 (FieldsOK.cons (by kernel_rfl) Qfit71 (FieldsOK.nil))) (by kernel_rfl)).mono (fun vs h=>kAll_rows (rs:=[[.i .i64],[.i .i64,.i .i64]]) h)
theorem Qfit37:FitsP Tryz.prog 37 (KSl [.i .i64,.i .i64,.i .i64]):=FitsP.slice (r:=[.i .i64,.i .i64,.i .i64]) Tryz.underlying37 Qfit73 (by kernel_rfl) (by decide)
structure Clock.WF (c:Clock):Prop where
 now:RT.wf [.i .i64,.i .i64] c.now
 field:Field.WF c.field
 certs:Certs.WF c.certs
 agenda:Agenda.WF c.agenda
 due: ∀a∈c.due,RT.wf [.i .i64,.i .i64,.i .i64] a
def QKClock:List SV->Prop:=fun vs=> ∃c:Clock,vs=Clock_c.enc c/\c.WF
theorem Qfit39:FitsP Tryz.prog 39 QKClock:=(FitsP.struct (Ks:=[(KRow [.i .i64,.i .i64]),QKField,QKCerts,QKAgenda,(KSl [.i .i64,.i .i64,.i .i64])]) Tryz.underlying39 (FieldsOK.cons (by kernel_rfl) Qfit23 (FieldsOK.cons (by kernel_rfl) Qfit26 (FieldsOK.cons (by kernel_rfl) Qfit29 (FieldsOK.cons (by kernel_rfl) Qfit36 (FieldsOK.cons (by kernel_rfl) Qfit37 (FieldsOK.nil)))))) (by kernel_rfl)).mono (by
 rintro vs ⟨_,b0,rfl,⟨c0,rfl,w0⟩,_,b1,rfl,⟨c1,rfl,w1⟩,_,b2,rfl,⟨c2,rfl,w2⟩,_,b3,rfl,⟨c3,rfl,w3⟩,_,b4,rfl,⟨c4,rfl,w4⟩,rfl⟩;refine ⟨⟨c0,c1,c2,c3,c4⟩,?_,⟨w0,w1,w2,w3,w4⟩⟩;simp only [List.append_nil]
 rfl)
theorem Qfit40:FitsP Tryz.prog 40 (KSl [.i .i64,.i .i64]):=FitsP.slice (r:=[.i .i64,.i .i64]) Tryz.underlying40 Qfit58 (by kernel_rfl) (by decide)
theorem Qrd39:Tryz.prog.readableRec 39=true/\39<Tryz.prog.types.size:=⟨by kernel_rfl,of_decide_eq_true (by kernel_rfl)⟩
theorem Qrd26:Tryz.prog.readableRec 26=true/\26<Tryz.prog.types.size:=⟨by kernel_rfl,of_decide_eq_true (by kernel_rfl)⟩
theorem Qrd40:Tryz.prog.readableRec 40=true/\40<Tryz.prog.types.size:=⟨by kernel_rfl,of_decide_eq_true (by kernel_rfl)⟩
theorem Qown:ownKnob Tryz.prog.godebug=none:=by kernel_rfl
theorem Qlaid:laidOutB Tryz.prog=true:=by kernel_rfl
set_option maxRecDepth 100000 in
theorem Qlifted (os:Os) (started:os.Started) (H:Type) (enc:TypeId×Value->H):
 ReturnsInHanded {} Tryz.checked os 3 .any (Rows.kheapRenewsSpec.pre6 enc Tryz.prog Tryz.f3 Rows.kheapRenewsRow.domain false) (Rows.kheapRenewsSpec.post enc Tryz.prog Tryz.f3 false true false false):=by
 refine returnsInHanded_of_change (C:=Tryz.checked) Qown started (by kernel_rfl) Tryz.func3
  (ChangeSpec.witness6 (enc:=enc) (C:=Tryz.checked) false ⟨#[],#[.agg #[.int .i64 0,.int .i64 0,.slice none 0 0,.int .i64 0,.slice none 0 0,.slice none 0 0,.slice none 0 0,.slice none 0 0,.slice none 0 0,.slice none 0 0,.slice none 0 0],.agg #[.slice none 0 0],.slice none 0 0],[]⟩ 16 (by kernel_rfl) (by kernel_rfl) (by kernel_rfl) (by kernel_rfl)) ?_
 intro W base args ds gs before hval0 hW hcnd _;have hval: ∀(j:Nat) t v,Tryz.f3.params[j]? =some t->args[j]? =some v->Value.okWide Tryz.prog W .any base t v:=hval0;have hW':=hW;obtain ⟨p,q,hA0,hV,rfl,hfz,hnd⟩:=hW;have hA:DataW.TrodAll enc Tryz.prog W 0 (fun _=>true) true Tryz.f3.params.toList args.toList ds p:=hA0
 rw [Tryz.params3] at hA hval;obtain ⟨v0,vs0,d0,ds0,p0,q0,hargs,rfl,rfl,h0,r0⟩:=trodAll_cons hA;obtain ⟨v1,vs1,d1,ds1,p1,q1,rfl,rfl,rfl,h1,r1⟩:=trodAll_cons r0;obtain ⟨v2,vs2,d2,ds2,p2,q2,rfl,rfl,rfl,h2,r2⟩:=trodAll_cons r1;obtain ⟨rfl,rfl,rfl⟩:=trodAll_nil r2;obtain rfl:args= #[v0,v1,v2]:=by cases args;simp_all
 obtain ⟨rfl,rfl⟩:=trodVars_none hV;obtain ⟨_,g0,⟨a0,rfl,w0⟩,e0,k0⟩:=FitsP.argS Qfit39 Tryz.underlying39 (hval 0 39 v0 rfl rfl) h0;obtain rfl:g0=(pvL (Clock_c.enc a0)).getD []:=by rw [e0];rfl
 obtain ⟨_,g1,⟨a1,rfl,w1⟩,e1,k1⟩:=FitsP.argS Qfit26 Tryz.underlying26 (hval 1 26 v1 rfl rfl) h1;obtain rfl:g1=(pvL (Field_c.enc a1)).getD []:=by rw [e1];rfl
 obtain ⟨a2,w2,k2⟩:=FitsP.argL Qfit40 Tryz.underlying40 (hval 2 40 v2 rfl rfl) h2;obtain ⟨n,s,z,hrun⟩:=ConOK.runA c3_ok tab_3 (a:=(a0,a1,a2)) (law13_KheapRenews_true a0 a1 a2 (Nums.of w0.now w0.agenda.heap)) (ps:=[.agg ((pvL (Clock_c.enc a0)).getD []),.agg ((pvL (Field_c.enc a1)).getD []),.sl 2 false (a2.map (RT.pv [.i .i64,.i .i64]))]) rfl rfl
 refine (law_calls (P:=Tryz.prog) (prims:=fun _=>true) (TT.tabOK tab_all) (TT.primsOK tab_all) prog_mixed hrun (us:=[v0,v1,v2]) (w:=W) (.cons _ _ _ _ k0 (.cons _ _ _ _ k1 (.cons _ _ _ _ k2 (.nil))))).mono fun e W' ⟨he,hb⟩=>?_
 subst he;exact ⟨_,rfl,law_post (P:=Tryz.prog) (bt:=4) Qlaid rfl rfl (by kernel_rfl) (by
  rw [Tryz.params3];intro t ht;simp only [List.mem_cons,List.not_mem_nil,or_false] at ht;rcases ht with rfl|rfl|rfl
  · exact Qrd39
  · exact Qrd26
  · exact Qrd40) hW' rfl hb⟩
theorem kheapRenews_holds:Rows.KheapRenewsSaid:=
 OpenClaim.holds_of_wide 3 Tryz.f3 rfl rfl rfl rfl rfl rfl rfl ⟨rfl,rfl,rfl,rfl,rfl⟩ rfl rfl rfl rfl rfl (by kernel_rfl) Tryz.func3 (by kernel_rfl)
  (of_decide_eq_true (by kernel_rfl)) (by unfold Func.isWrapper;first|(rw [if_pos (by decide+kernel)];kernel_rfl)|(rw [if_neg (by decide+kernel)];exact ⟨rfl,rfl⟩))
  (fun os started H enc _=>Qlifted os started H enc)
end Go.Proofs.YtjikemfbommnlaaGreat
