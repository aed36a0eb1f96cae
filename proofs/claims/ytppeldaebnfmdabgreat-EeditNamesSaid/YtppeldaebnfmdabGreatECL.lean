/- The law EeditNames returns true: it takes no arguments, so its plain function is reckoned. -/
import Derived.Test.YtppeldaebnfmdabGreatRows
import Derived.Test.YtppeldaebnfmdabGreatECE
import Derived.Test.YtppeldaebnfmdabGreatEVm3
namespace Go.Proofs.YtppeldaebnfmdabGreat
open Go.ChangeShapes Go.WideShapes Go.ChangeAt Go.RowKit Go.Vm

theorem Cown : ownKnob Tryz.prog.godebug = none := by kernel_rfl
theorem Claid : laidOutB Tryz.prog = true := by kernel_rfl


set_option maxRecDepth 100000 in
theorem Clifted (os : Os) (started : os.Started) (H : Type) (enc : TypeId × Value → H) :
    ReturnsInHanded {} Tryz.checked os 3 .any (Rows.eeditNamesSpec.pre6 enc Tryz.prog Tryz.f3 Rows.eeditNamesRow.domain false) (Rows.eeditNamesSpec.post enc Tryz.prog Tryz.f3 false true false false) := by
  refine returnsInHanded_of_change (C := Tryz.checked) Cown started (by kernel_rfl) Tryz.func3
    (ChangeSpec.witness6 (enc := enc) (C := Tryz.checked) false ⟨#[], #[], []⟩ 8 (by kernel_rfl) (by kernel_rfl) (by kernel_rfl) (by kernel_rfl)) ?_
  intro W base args ds gs before hval0 hW hcnd _
  have hW' := hW
  obtain ⟨p, q, hA0, hV, rfl, hfz, hnd⟩ := hW
  have hA : DataW.TrodAll enc Tryz.prog W 0 (fun _ => true) true Tryz.f3.params.toList args.toList ds p := hA0
  rw [show Tryz.f3.params = #[] from rfl] at hA
  obtain ⟨hargs, rfl, rfl⟩ := trodAll_nil hA
  obtain rfl : args = #[] := by cases args; simp_all
  obtain ⟨rfl, rfl⟩ := trodVars_none hV
  obtain ⟨n, s, z, hrun⟩ := ConOK.run0 (fn := fun _ => law18_EeditNames 1000000) (c3_ok 1000000) tab_3 Ctrue
  refine (law_calls (P := Tryz.prog) (prims := fun _ => true) (TT.tabOK tab_all) (TT.primsOK tab_all) prog_mixed hrun (us := []) (w := W) .nil).mono fun e W' ⟨he, hb⟩ => ?_
  subst he
  exact ⟨_, rfl, law_post (P := Tryz.prog) (bt := 4) Claid rfl rfl (by kernel_rfl) (by intro t ht; cases ht) hW' rfl hb⟩

theorem eeditNames_holds : Rows.EeditNamesSaid :=
  OpenClaim.holds_of_wide 3 Tryz.f3 rfl rfl rfl rfl rfl rfl rfl ⟨rfl, rfl, rfl, rfl, rfl⟩ rfl rfl rfl rfl rfl (by kernel_rfl) Tryz.func3 (by kernel_rfl)
    (of_decide_eq_true (by kernel_rfl)) (by unfold Func.isWrapper; first | (rw [if_pos (by decide +kernel)]; kernel_rfl) | (rw [if_neg (by decide +kernel)]; exact ⟨rfl, rfl⟩))
    (fun os started H enc _ => Clifted os started H enc)
end Go.Proofs.YtppeldaebnfmdabGreat
