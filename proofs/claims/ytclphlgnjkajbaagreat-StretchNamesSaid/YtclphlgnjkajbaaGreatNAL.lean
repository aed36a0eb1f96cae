/- The law StretchNames returns true: it takes no arguments, so its plain function is reckoned. -/
import Derived.Test.YtclphlgnjkajbaaGreatRows
import Derived.Test.YtclphlgnjkajbaaGreatNAE
import Derived.Test.YtclphlgnjkajbaaGreatNVm2
namespace Go.Proofs.YtclphlgnjkajbaaGreat
open Go.ChangeShapes Go.WideShapes Go.ChangeAt Go.RowKit Go.Vm
theorem aV6:ownKnob Tryz.prog.godebug=none:=by kernel_rfl
theorem aUB:laidOutB Tryz.prog=true:=by kernel_rfl
set_option maxRecDepth 100000 in
theorem aKK (os:Os) (started:os.Started) (H:Type) (enc:TypeId×Value->H):
 ReturnsInHanded {} Tryz.checked os 5 .any (Rows.stretchNamesSpec.pre6 enc Tryz.prog Tryz.f5 Rows.stretchNamesRow.domain false) (Rows.stretchNamesSpec.post enc Tryz.prog Tryz.f5 false true false false):=by
 refine returnsInHanded_of_change (C:=Tryz.checked) aV6 started (by kernel_rfl) Tryz.func5
  (ChangeSpec.witness6 (enc:=enc) (C:=Tryz.checked) false ⟨#[],#[],[]⟩ 8 (by kernel_rfl) (by kernel_rfl) (by kernel_rfl) (by kernel_rfl)) ?_
 intro W base args ds gs before hval0 hW hcnd _;have hW':=hW;obtain ⟨p,q,hA0,hV,rfl,hfz,hnd⟩:=hW;have hA:DataW.TrodAll enc Tryz.prog W 0 (fun _=>true) true Tryz.f5.params.toList args.toList ds p:=hA0
 rw [show Tryz.f5.params= #[] from rfl] at hA;obtain ⟨hargs,rfl,rfl⟩:=trodAll_nil hA;obtain rfl:args= #[]:=by cases args;simp_all
 obtain ⟨rfl,rfl⟩:=trodVars_none hV;obtain ⟨n,s,z,hrun⟩:=aB.run0 (fn:=fun _=>hZ 1000000) (aUy 1000000) aK9 aUA
 refine (V9 (P:=Tryz.prog) (prims:=fun _=>true) (TT.tabOK TZ) (TT.primsOK TZ) iV hrun (us:=[]) (w:=W) .nil).mono fun e W' ⟨he,hb⟩=>?_
 subst he;exact ⟨_,rfl,YG (P:=Tryz.prog) (bt:=4) aUB rfl rfl (by kernel_rfl) (by intro t ht;cases ht) hW' rfl hb⟩
theorem Qand {a b : Bool} (h : a = true) (k : b = true) : (a && b) = true := by rw [h, k]; rfl
theorem Qk0 : Rows.stretchNamesRow.wf (OpenSpec.ofChange Rows.stretchNamesSpec) = true := by decide +kernel
theorem Qk1 : laidOutB Tryz.prog = true := by decide +kernel
theorem Qk2 : mapsRowed Tryz.prog = true := by decide +kernel
theorem Qk3 : Tryz.f5.params.all (Tryz.prog.readableRec ·) = true := by decide +kernel
theorem Qk4 : namedTie Tryz.prog Rows.stretchNamesRow.named Rows.stretchNamesSpec.vars = true := by decide +kernel
theorem Qk5 : (Rows.stretchNamesRow.stops == []) = true := by decide +kernel
theorem Qk6 : (Tryz.prog.stops == []) = true := by decide +kernel
theorem Qk7 : (Rows.stretchNamesRow.knobs == []) = true := by decide +kernel
theorem Qk8 : (Tryz.prog.stopKnobs == []) = true := by decide +kernel
theorem Qk9 : (Rows.stretchNamesRow.inPlace == Tryz.prog.inPlace 5) = true := by decide +kernel
theorem Qk10 : (Rows.stretchNamesRow.unfollowed == Tryz.prog.unfollowed 5) = true := by decide +kernel
theorem Qk11 : (Rows.stretchNamesRow.recurses == Tryz.prog.recurses 5) = true := by decide +kernel
theorem Qk12 : (Rows.stretchNamesRow.named == Tryz.prog.varsNamed 5) = true := by decide +kernel
theorem Qk13 : (Rows.stretchNamesRow.maps == (Tryz.f5.params.toList ++ Rows.stretchNamesSpec.plain.varTypes Tryz.prog).any (Tryz.prog.mapsRec ·)) = true := by decide +kernel
theorem Qk14 : (Rows.stretchNamesRow.ifaces == (Tryz.f5.params.toList ++ Rows.stretchNamesSpec.plain.varTypes Tryz.prog).any (Tryz.prog.ifacesRec ·)) = true := by decide +kernel
theorem Qk15 : (Rows.stretchNamesRow.mapsOut == Tryz.prog.mapsAmong Tryz.f5.resultTypes.toList) = true := by decide +kernel
theorem Qk16 : (Rows.stretchNamesRow.loops == (Tryz.f5.params.toList ++ Rows.stretchNamesSpec.plain.varTypes Tryz.prog).any (Tryz.prog.loopsFrom ·)) = true := by decide +kernel
theorem Qk17 : (Rows.stretchNamesRow.wideKeys == (Tryz.f5.params.toList ++ Rows.stretchNamesSpec.plain.varTypes Tryz.prog ++ Tryz.f5.resultTypes.toList).any (Tryz.prog.wideKeysFrom ·)) = true := by decide +kernel
theorem Qk18 : Rows.stretchNamesSpec.vars.all (Tryz.prog.varReadable ·) = true := by decide +kernel
theorem Qk19 : Tryz.f5.resultTypes.all (fun t => Tryz.prog.readableRec t && decide (t < Tryz.prog.types.size)) = true := by decide +kernel
theorem Qk20 : (Rows.stretchNamesRow.ifacesOut == Tryz.f5.resultTypes.toList.any (Tryz.prog.ifacesRec ·)) = true := by decide +kernel
theorem Qk21 : (Rows.stretchNamesRow.loopsOut == Tryz.f5.resultTypes.toList.any (Tryz.prog.loopsFrom ·)) = true := by decide +kernel
theorem Qk22 : (Rows.stretchNamesRow.plainKeys == Tryz.prog.plainKeys) = true := by decide +kernel
theorem Qk23 : Rows.stretchNamesRow.shortTexts.isNone = true := by decide +kernel
theorem Qk24 : Tryz.prog.stopsHeard = true := by decide +kernel
theorem Qk25 : Tryz.prog.mayEnter = true := by decide +kernel
theorem Qk26 : (Rows.stretchNamesRow.lifted == Tryz.prog.liftsFinal) = true := by decide +kernel
theorem Qk27 : (Tryz.prog.make == some Rows.stretchNamesRow.make) = true := by decide +kernel
theorem Qk28 : (Rows.stretchNamesRow.kinds == (if Rows.stretchNamesRow.domain.isEmpty then [] else Tryz.f5.params.toList.map fun t => match Tryz.prog.underlying t with | some (.int k) => some k | _ => none)) = true := by decide +kernel
theorem Qk29 : (Rows.stretchNamesRow.pinned == Rows.stretchNamesRow.pinnedBy) = true := by decide +kernel
theorem Qk30 : (Rows.stretchNamesRow.veiled == (Tryz.f5.params.toList ++ Rows.stretchNamesSpec.plain.varTypes Tryz.prog ++ Tryz.f5.resultTypes.toList).any (Tryz.prog.veiledRec ·)) = true := by decide +kernel
theorem Qk31 : Rows.stretchNamesRow.veiledFits Tryz.prog Tryz.f5.params.toList (Tryz.f5.params.toList ++ Rows.stretchNamesSpec.plain.varTypes Tryz.prog ++ Tryz.f5.resultTypes.toList) = true := by decide +kernel
set_option maxRecDepth 100000 in
theorem Qclosed : joinedFacts Tryz.prog 5 Tryz.f5 Rows.stretchNamesSpec Rows.stretchNamesRow = true := (Qand (Qand (Qand (Qand (Qand (Qand (Qand (Qand (Qand (Qand (Qand (Qand (Qand (Qand (Qand (Qand (Qand (Qand (Qand (Qand (Qand (Qand (Qand (Qand (Qand (Qand (Qand (Qand (Qand (Qand (Qand Qk0 Qk1) Qk2) Qk3) Qk4) Qk5) Qk6) Qk7) Qk8) Qk9) Qk10) Qk11) Qk12) Qk13) Qk14) Qk15) Qk16) Qk17) Qk18) Qk19) Qk20) Qk21) Qk22) Qk23) Qk24) Qk25) Qk26) Qk27) Qk28) Qk29) Qk30) Qk31)
theorem stretchNames_holds:Rows.StretchNamesSaid:=
 OpenClaim.holds_of_wide 5 Tryz.f5 rfl rfl rfl rfl rfl rfl rfl ⟨rfl,rfl,rfl,rfl,rfl⟩ rfl rfl rfl rfl rfl (by kernel_rfl) Tryz.func5 Qclosed
  (of_decide_eq_true (by kernel_rfl)) (by unfold Func.isWrapper;first|(rw [if_pos (by decide+kernel)];kernel_rfl)|(rw [if_neg (by decide+kernel)];exact ⟨rfl,rfl⟩))
  (fun os started H enc _=>aKK os started H enc)
end Go.Proofs.YtclphlgnjkajbaaGreat
