/- The law TeditNames returns true: it takes no arguments, so its plain function is reckoned. -/
import Derived.Test.YtogihpogmfjoiaaGreatRows
import Derived.Test.YtogihpogmfjoiaaGreatNAE
import Derived.Test.YtogihpogmfjoiaaGreatNVm2
namespace Go.Proofs.YtogihpogmfjoiaaGreat
open Go.ChangeShapes Go.WideShapes Go.ChangeAt Go.RowKit Go.Vm
theorem aMG:ownKnob Tryz.prog.godebug=none:=by kernel_rfl
theorem aKS:laidOutB Tryz.prog=true:=by kernel_rfl
set_option maxRecDepth 100000 in
theorem aDk (os:Os) (started:os.Started) (H:Type) (enc:TypeId×Value->H):
 ReturnsInHanded {} Tryz.checked os 7 .any (Rows.teditNamesSpec.pre6 enc Tryz.prog Tryz.f7 Rows.teditNamesRow.domain false) (Rows.teditNamesSpec.post enc Tryz.prog Tryz.f7 false true false false):=by
 refine returnsInHanded_of_change (C:=Tryz.checked) aMG started (by kernel_rfl) Tryz.func7
  (ChangeSpec.witness6 (enc:=enc) (C:=Tryz.checked) false ⟨#[],#[],[]⟩ 8 (by kernel_rfl) (by kernel_rfl) (by kernel_rfl) (by kernel_rfl)) ?_
 intro W base args ds gs before hval0 hW hcnd _;have hW':=hW;obtain ⟨p,q,hA0,hV,rfl,hfz,hnd⟩:=hW;have hA:DataW.TrodAll enc Tryz.prog W 0 (fun _=>true) true Tryz.f7.params.toList args.toList ds p:=hA0
 rw [show Tryz.f7.params= #[] from rfl] at hA;obtain ⟨hargs,rfl,rfl⟩:=trodAll_nil hA;obtain rfl:args= #[]:=by cases args;simp_all
 obtain ⟨rfl,rfl⟩:=trodVars_none hV;obtain ⟨n,s,z,hrun⟩:=aB.run0 (fn:=fun _=>hZ 1000000) (aKL 1000000) aDJ aKR
 refine (PA (P:=Tryz.prog) (prims:=fun _=>true) (TT.tabOK NK) (TT.primsOK NK) gX hrun (us:=[]) (w:=W) .nil).mono fun e W' ⟨he,hb⟩=>?_
 subst he;exact ⟨_,rfl,Q0 (P:=Tryz.prog) (bt:=4) aKS rfl rfl (by kernel_rfl) (by intro t ht;cases ht) hW' rfl hb⟩
theorem teditNames_holds:Rows.TeditNamesSaid:=
 OpenClaim.holds_of_wide 7 Tryz.f7 rfl rfl rfl rfl rfl rfl rfl ⟨rfl,rfl,rfl,rfl,rfl⟩ rfl rfl rfl rfl rfl (by kernel_rfl) Tryz.func7 (by kernel_rfl)
  (of_decide_eq_true (by kernel_rfl)) (by unfold Func.isWrapper;first|(rw [if_pos (by decide+kernel)];kernel_rfl)|(rw [if_neg (by decide+kernel)];exact ⟨rfl,rfl⟩))
  (fun os started H enc _=>aDk os started H enc)
end Go.Proofs.YtogihpogmfjoiaaGreat
