/- The law StretchMoves of the given program holds: for every list it returns true and leaves the list as it was, with no condition. -/
import Derived.Test.YtohmmcfniijjkaaRows
import Derived.Test.YtohmmcfniijjkaaMX1
import Derived.Test.YtohmmcfniijjkaaMC3
import Derived.Test.YtohmmcfniijjkaaMVmLaw
namespace Go.Proofs.Ytohmmcfniijjkaa
open Go.ChangeShapes Go.WideShapes Go.ChangeAt Go.RowKit Go.Vm

theorem Try.own : ownKnob Try.prog.godebug = none := by kernel_rfl
theorem Try.laidOut : laidOutB Try.prog = true := by kernel_rfl
theorem Try.mixed : Try.prog.follows .mixedOrders = true := Try.checked.mixed

theorem moves_run (l : List Bool) : ∃ n s z, run tab n (.func 4 [encBools l] [] []) = some (.func (.bool true) s z) := by
  obtain ⟨n, v, s, z, h, rfl⟩ := law4 l
  exact ⟨n, s, z, h⟩

set_option maxRecDepth 100000 in
theorem moves_lifted (os : Os) (started : os.Started) (H : Type) (enc : TypeId × Value → H) :
    ReturnsInHanded {} Try.checked os 4 .any (Rows.stretchMovesSpec.pre6 enc Try.prog Try.f4 Rows.stretchMovesRow.domain false) (Rows.stretchMovesSpec.post enc Try.prog Try.f4 false true false false) := by
  refine returnsInHanded_of_change (C := Try.checked) Try.own started (by kernel_rfl) Try.func4
    (ChangeSpec.witness6 (enc := enc) (C := Try.checked) false ⟨#[], #[.slice none 0 0], []⟩ 8 (by kernel_rfl) (by kernel_rfl) (by kernel_rfl) (by kernel_rfl)) ?_
  intro W base args ds gs before hval0 hW hcnd _
  have hval : ∀ (j : Nat) t v, Try.f4.params[j]? = some t → args[j]? = some v → Value.okWide Try.prog W .any base t v := hval0
  have hW' := hW
  obtain ⟨p, q, hA0, hV, rfl, hfz, hnd⟩ := hW
  have hA : DataW.TrodAll enc Try.prog W 0 (fun _ => true) true Try.f4.params.toList args.toList ds p := hA0
  rw [Try.params4] at hA hval
  obtain ⟨v0, vs0, d0, ds0, p0, q0, hargs, rfl, rfl, h0, r0⟩ := trodAll_cons hA
  obtain ⟨rfl, rfl, rfl⟩ := trodAll_nil r0
  obtain rfl : args = #[v0] := by cases args; simp_all
  obtain ⟨rfl, rfl⟩ := trodVars_none hV
  obtain ⟨l, hvr, hl⟩ := vr_bools Try.underlying22 Try.underlying4 (by kernel_rfl) (hval 0 22 v0 rfl rfl) h0
  obtain ⟨n, s, z, hrun⟩ := moves_run l
  refine (law_calls (P := Try.prog) (prims := fun _ => true) (TT.tabOK tab_all) (TT.primsOK tab_all) Try.mixed hrun (us := [v0]) (w := W) (.cons _ _ _ _ hvr .nil)).mono fun e W' ⟨he, hb⟩ => ?_
  subst he
  exact ⟨_, rfl, law_post (P := Try.prog) (bt := 4) Try.laidOut rfl rfl Try.underlying4 (by rw [Try.params4]; intro t ht; simp at ht; subst ht; exact ⟨by kernel_rfl, of_decide_eq_true (by kernel_rfl)⟩) hW' rfl hb⟩

theorem moves_holds : Rows.StretchMovesSaid :=
  OpenClaim.holds_of_wide 4 Try.f4 rfl rfl rfl rfl rfl rfl rfl ⟨rfl, rfl, rfl, rfl, rfl⟩ rfl rfl rfl rfl rfl (by kernel_rfl) Try.func4 (by kernel_rfl)
    (of_decide_eq_true (by kernel_rfl)) (by unfold Func.isWrapper; first | (rw [if_pos (by decide +kernel)]; kernel_rfl) | (rw [if_neg (by decide +kernel)]; exact ⟨rfl, rfl⟩))
    (fun os started H enc _ => moves_lifted os started H enc)
end Go.Proofs.Ytohmmcfniijjkaa
