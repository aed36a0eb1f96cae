/- The law StretchSizes returns true: its plain function gives true whatever comes in. -/
import Derived.Test.YtmlghnibpjlchabRows
import Derived.Test.YtmlghnibpjlchabZQS1
import Derived.Test.YtmlghnibpjlchabZQM1
import Derived.Test.YtmlghnibpjlchabZVm3
namespace Go.Proofs.Ytmlghnibpjlchab
open Go.ChangeShapes Go.WideShapes Go.ChangeAt Go.RowKit Go.Vm
theorem Qfit4:FitsP Try.prog 4 (KRow [.b]):=FitsP.bool Try.underlying4
theorem Qfit22:FitsP Try.prog 22 (KSl [.b]):=FitsP.slice (r:=[.b]) Try.underlying22 Qfit4 (by kernel_rfl) (by decide)
theorem Qrd3:Try.prog.readableRec 3=true/\3<Try.prog.types.size:=⟨by kernel_rfl,of_decide_eq_true (by kernel_rfl)⟩
theorem Qrd22:Try.prog.readableRec 22=true/\22<Try.prog.types.size:=⟨by kernel_rfl,of_decide_eq_true (by kernel_rfl)⟩
theorem Qown:ownKnob Try.prog.godebug=none:=by kernel_rfl
theorem Qlaid:laidOutB Try.prog=true:=by kernel_rfl
set_option maxRecDepth 100000 in
theorem Qlifted (os:Os) (started:os.Started) (H:Type) (enc:TypeId×Value->H):
 ReturnsInHanded {} Try.checked os 3 .any (Rows.stretchSizesSpec.pre6 enc Try.prog Try.f3 Rows.stretchSizesRow.domain false) (Rows.stretchSizesSpec.post enc Try.prog Try.f3 false true false false):=by
 refine returnsInHanded_of_change (C:=Try.checked) Qown started (by kernel_rfl) Try.func3
  (ChangeSpec.witness6 (enc:=enc) (C:=Try.checked) false ⟨#[],#[.int .i64 0,.slice none 0 0],[]⟩ 16 (by kernel_rfl) (by kernel_rfl) (by kernel_rfl) (by kernel_rfl)) ?_
 intro W base args ds gs before hval0 hW hcnd _;have hval: ∀(j:Nat) t v,Try.f3.params[j]? =some t->args[j]? =some v->Value.okWide Try.prog W .any base t v:=hval0;have hW':=hW;obtain ⟨p,q,hA0,hV,rfl,hfz,hnd⟩:=hW;have hA:DataW.TrodAll enc Try.prog W 0 (fun _=>true) true Try.f3.params.toList args.toList ds p:=hA0
 rw [Try.params3] at hA hval;obtain ⟨v0,vs0,d0,ds0,p0,q0,hargs,rfl,rfl,h0,r0⟩:=trodAll_cons hA;obtain ⟨v1,vs1,d1,ds1,p1,q1,rfl,rfl,rfl,h1,r1⟩:=trodAll_cons r0;obtain ⟨rfl,rfl,rfl⟩:=trodAll_nil r1;obtain rfl:args= #[v0,v1]:=by cases args;simp_all
 obtain ⟨rfl,rfl⟩:=trodVars_none hV;obtain ⟨a0,w0,k0⟩:=FitsP.argI Try.underlying3 (hval 0 3 v0 rfl rfl) h0;obtain ⟨a1,w1,k1⟩:=FitsP.argL Qfit22 Try.underlying22 (hval 1 22 v1 rfl rfl) h1;obtain ⟨n,s,z,hrun⟩:=ConOK.runA c3_ok tab_3 (a:=(a0,a1)) (law23_StretchSizes_true a0 a1) (ps:=[.int .i64 a0,.sl 1 false (a1.map (RT.pv [.b]))]) rfl rfl
 refine (law_calls (P:=Try.prog) (prims:=fun _=>true) (TT.tabOK tab_all) (TT.primsOK tab_all) prog_mixed hrun (us:=[v0,v1]) (w:=W) (.cons _ _ _ _ k0 (.cons _ _ _ _ k1 (.nil)))).mono fun e W' ⟨he,hb⟩=>?_
 subst he;exact ⟨_,rfl,law_post (P:=Try.prog) (bt:=4) Qlaid rfl rfl (by kernel_rfl) (by
  rw [Try.params3];intro t ht;simp only [List.mem_cons,List.not_mem_nil,or_false] at ht;rcases ht with rfl|rfl
  · exact Qrd3
  · exact Qrd22) hW' rfl hb⟩
theorem stretchSizes_holds:Rows.StretchSizesSaid:=
 OpenClaim.holds_of_wide 3 Try.f3 rfl rfl rfl rfl rfl rfl rfl ⟨rfl,rfl,rfl,rfl,rfl⟩ rfl rfl rfl rfl rfl (by kernel_rfl) Try.func3 (by kernel_rfl)
  (of_decide_eq_true (by kernel_rfl)) (by unfold Func.isWrapper;first|(rw [if_pos (by decide+kernel)];kernel_rfl)|(rw [if_neg (by decide+kernel)];exact ⟨rfl,rfl⟩))
  (fun os started H enc _=>Qlifted os started H enc)
end Go.Proofs.Ytmlghnibpjlchab
