/- slices.Sort of numbers: what the library's law says of the program's function. Printed by a program. -/
import Derived.Test.YtkdikjnhkfffjaaGreatPVm3
import Derived.Shelf.Slices.In.SortNone
import Derived.Shelf.Slices.In.SortAlone
import Derived.Sort.EveryDepth
import Derived.Test.YtkdikjnhkfffjaaGreatChecked
open Option renaming some->EQ
set_option maxRecDepth 100000
namespace Go.Proofs.YtkdikjnhkfffjaaGreat
open Go.Vm Go.Shelf
def agq:Go.Shelf.Ren:=⟨λ|125=>185|128=>242|129=>243|189=>125|215=>172|216=>239|257=>184|294=>233|295=>234|296=>235|297=>236|298=>237|299=>238|300=>240|301=>241|328=>276|329=>277|330=>278|331=>279|332=>280|343=>297|n=>n,λ|28=>36|46=>208|51=>267|53=>92|131=>118|182=>323|183=>324|218=>355|222=>359|228=>377|229=>378|n=>n,λn=>n⟩
theorem ZH:Lays.n189 Tryz.prog agq where
 mixed:=by kernel_rfl
 f125:=Tryz.func185.trans (congrArg EQ (by kernel_rfl))
 f128:=Tryz.func242.trans (congrArg EQ (by kernel_rfl))
 f129:=Tryz.func243.trans (congrArg EQ (by kernel_rfl))
 f189:=Tryz.func125.trans (congrArg EQ (by kernel_rfl))
 f215:=Tryz.func172.trans (congrArg EQ (by kernel_rfl))
 f216:=Tryz.func239.trans (congrArg EQ (by kernel_rfl))
 f257:=Tryz.func184.trans (congrArg EQ (by kernel_rfl))
 f294:=Tryz.func233.trans (congrArg EQ (by kernel_rfl))
 f295:=Tryz.func234.trans (congrArg EQ (by kernel_rfl))
 f296:=Tryz.func235.trans (congrArg EQ (by kernel_rfl))
 f297:=Tryz.func236.trans (congrArg EQ (by kernel_rfl))
 f298:=Tryz.func237.trans (congrArg EQ (by kernel_rfl))
 f299:=Tryz.func238.trans (congrArg EQ (by kernel_rfl))
 f300:=Tryz.func240.trans (congrArg EQ (by kernel_rfl))
 f301:=Tryz.func241.trans (congrArg EQ (by kernel_rfl))
 f328:=Tryz.func276.trans (congrArg EQ (by kernel_rfl))
 f329:=Tryz.func277.trans (congrArg EQ (by kernel_rfl))
 f330:=Tryz.func278.trans (congrArg EQ (by kernel_rfl))
 f331:=Tryz.func279.trans (congrArg EQ (by kernel_rfl))
 f332:=Tryz.func280.trans (congrArg EQ (by kernel_rfl))
 f343:=Tryz.func297.trans (congrArg EQ (by kernel_rfl))
 t0:=Tryz.underlying0
 a0:=Tryz.isAgg0
 z0:=Tryz.sizeOf0
 v0:=Tryz.zeroValue0
 t3:=Tryz.underlying3
 a3:=Tryz.isAgg3
 z3:=Tryz.sizeOf3
 v3:=Tryz.zeroValue3
 t4:=Tryz.underlying4
 a4:=Tryz.isAgg4
 z4:=Tryz.sizeOf4
 v4:=Tryz.zeroValue4
 t5:=Tryz.underlying5
 a5:=Tryz.isAgg5
 z5:=Tryz.sizeOf5
 v5:=Tryz.zeroValue5
 t9:=Tryz.underlying9
 a9:=Tryz.isAgg9
 z9:=Tryz.sizeOf9
 v9:=Tryz.zeroValue9
 t28:=Tryz.underlying36
 a28:=Tryz.isAgg36
 z28:=Tryz.sizeOf36
 v28:=Tryz.zeroValue36
 t46:=Tryz.underlying208
 a46:=Tryz.isAgg208
 z46:=Tryz.sizeOf208
 v46:=Tryz.zeroValue208
 t51:=Tryz.underlying267
 a51:=Tryz.isAgg267
 z51:=Tryz.sizeOf267
 v51:=Tryz.zeroValue267
 t53:=Tryz.underlying92
 a53:=Tryz.isAgg92
 z53:=Tryz.sizeOf92
 v53:=Tryz.zeroValue92
 t131:=Tryz.underlying118
 a131:=Tryz.isAgg118
 z131:=Tryz.sizeOf118
 v131:=Tryz.zeroValue118
 t182:=Tryz.underlying323
 a182:=Tryz.isAgg323
 z182:=Tryz.sizeOf323
 v182:=Tryz.zeroValue323
 t183:=Tryz.underlying324
 a183:=Tryz.isAgg324
 z183:=Tryz.sizeOf324
 v183:=Tryz.zeroValue324
 t218:=Tryz.underlying355
 a218:=Tryz.isAgg355
 z218:=Tryz.sizeOf355
 v218:=Tryz.zeroValue355
 t222:=Tryz.underlying359
 a222:=Tryz.isAgg359
 z222:=Tryz.sizeOf359
 v222:=Tryz.zeroValue359
 t228:=Tryz.underlying377
 a228:=Tryz.isAgg377
 z228:=Tryz.sizeOf377
 v228:=Tryz.zeroValue377
 t229:=Tryz.underlying378
 a229:=Tryz.isAgg378
 z229:=Tryz.sizeOf378
 v229:=Tryz.zeroValue378
theorem WQ:CI Tryz.prog 125 SN:=
 CI.int (λeB off cap zs w hH hb hz=>calls_of_every_depth λD=>AnyS.slices_Sort_int_alone ZH D eB off cap zs w hH hb hz)
  (λp cap w=>calls_of_every_depth λD=>AnyS.slices_Sort_int_none_alone ZH D p cap w)
theorem agr:Fp Tryz.prog 125 (Ol SN):=by
 cases hc:Tryz.f125.body with
 |none=>exact absurd hc (by intro h;cases h)
 |some c=>exact Fp.srt Tryz.func125 (by kernel_rfl) hc rfl WQ
end Go.Proofs.YtkdikjnhkfffjaaGreat
