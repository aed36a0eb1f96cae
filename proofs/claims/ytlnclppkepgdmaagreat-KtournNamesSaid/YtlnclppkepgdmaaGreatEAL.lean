/- The law KtournNames returns true: it takes no arguments, so its plain function is reckoned. -/
import Derived.Test.YtlnclppkepgdmaaGreatRows
import Derived.Test.YtlnclppkepgdmaaGreatEAE
import Derived.Test.YtlnclppkepgdmaaGreatEVm2
namespace Go.Proofs.YtlnclppkepgdmaaGreat
open Go.ChangeShapes Go.WideShapes Go.ChangeAt Go.RowKit Go.Vm
theorem aKG:ownKnob Tryz.prog.godebug=none:=by kernel_rfl
theorem aI7:laidOutB Tryz.prog=true:=by kernel_rfl
set_option maxRecDepth 100000 in
theorem aBY (os:Os) (started:os.Started) (H:Type) (enc:TypeId×Value->H):
 ReturnsInHanded {} Tryz.checked os 5 .any (Rows.ktournNamesSpec.pre6 enc Tryz.prog Tryz.f5 Rows.ktournNamesRow.domain false) (Rows.ktournNamesSpec.post enc Tryz.prog Tryz.f5 false true false false):=by
 refine returnsInHanded_of_change (C:=Tryz.checked) aKG started (by kernel_rfl) Tryz.func5
  (ChangeSpec.witness6 (enc:=enc) (C:=Tryz.checked) false ⟨#[],#[],[]⟩ 8 (by kernel_rfl) (by kernel_rfl) (by kernel_rfl) (by kernel_rfl)) ?_
 intro W base args ds gs before hval0 hW hcnd _;have hW':=hW;obtain ⟨p,q,hA0,hV,rfl,hfz,hnd⟩:=hW;have hA:DataW.TrodAll enc Tryz.prog W 0 (fun _=>true) true Tryz.f5.params.toList args.toList ds p:=hA0
 rw [show Tryz.f5.params= #[] from rfl] at hA;obtain ⟨hargs,rfl,rfl⟩:=trodAll_nil hA;obtain rfl:args= #[]:=by cases args;simp_all
 obtain ⟨rfl,rfl⟩:=trodVars_none hV;obtain ⟨n,s,z,hrun⟩:=aB.run0 (fn:=fun _=>gD 1000000) (aI5 1000000) aCn aI6
 refine (N5 (P:=Tryz.prog) (prims:=fun _=>true) (TT.tabOK MH) (TT.primsOK MH) gM hrun (us:=[]) (w:=W) .nil).mono fun e W' ⟨he,hb⟩=>?_
 subst he;exact ⟨_,rfl,PQ (P:=Tryz.prog) (bt:=4) aI7 rfl rfl (by kernel_rfl) (by intro t ht;cases ht) hW' rfl hb⟩
theorem ktournNames_holds:Rows.KtournNamesSaid:=
 OpenClaim.holds_of_wide 5 Tryz.f5 rfl rfl rfl rfl rfl rfl rfl ⟨rfl,rfl,rfl,rfl,rfl⟩ rfl rfl rfl rfl rfl (by kernel_rfl) Tryz.func5 (by kernel_rfl)
  (of_decide_eq_true (by kernel_rfl)) (by unfold Func.isWrapper;first|(rw [if_pos (by decide+kernel)];kernel_rfl)|(rw [if_neg (by decide+kernel)];exact ⟨rfl,rfl⟩))
  (fun os started H enc _=>aBY os started H enc)
end Go.Proofs.YtlnclppkepgdmaaGreat
