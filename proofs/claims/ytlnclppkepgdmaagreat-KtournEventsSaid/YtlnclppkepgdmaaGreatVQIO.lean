/- slices.Sort of numbers: what the library's law says of the program's function. Printed by a program. -/
import Derived.Test.YtlnclppkepgdmaaGreatVVm4
import Derived.Shelf.Slices.In.SortNone
import Derived.Shelf.Slices.In.SortAlone
import Derived.Sort.EveryDepth
import Derived.Test.YtlnclppkepgdmaaGreatChecked
open Option renaming some->pp
set_option maxRecDepth 100000
namespace Go.Proofs.YtlnclppkepgdmaaGreat
open Go.Vm Go.Shelf
def aht:Go.Shelf.Ren:=⟨fun|125=>136|128=>211|129=>212|189=>70|215=>260|216=>208|257=>135|294=>202|295=>203|296=>204|297=>205|298=>206|299=>207|300=>209|301=>210|328=>255|329=>256|330=>257|331=>258|332=>259|343=>295|n=>n,fun|28=>30|46=>205|51=>285|53=>143|131=>238|182=>277|183=>278|218=>327|222=>331|228=>364|229=>66|n=>n,fun n=>n⟩
theorem Ue:Lays.n189 Tryz.prog aht where
 mixed:=by kernel_rfl
 f125:=Tryz.func136.trans (congrArg pp (by kernel_rfl))
 f128:=Tryz.func211.trans (congrArg pp (by kernel_rfl))
 f129:=Tryz.func212.trans (congrArg pp (by kernel_rfl))
 f189:=Tryz.func70.trans (congrArg pp (by kernel_rfl))
 f215:=Tryz.func260.trans (congrArg pp (by kernel_rfl))
 f216:=Tryz.func208.trans (congrArg pp (by kernel_rfl))
 f257:=Tryz.func135.trans (congrArg pp (by kernel_rfl))
 f294:=Tryz.func202.trans (congrArg pp (by kernel_rfl))
 f295:=Tryz.func203.trans (congrArg pp (by kernel_rfl))
 f296:=Tryz.func204.trans (congrArg pp (by kernel_rfl))
 f297:=Tryz.func205.trans (congrArg pp (by kernel_rfl))
 f298:=Tryz.func206.trans (congrArg pp (by kernel_rfl))
 f299:=Tryz.func207.trans (congrArg pp (by kernel_rfl))
 f300:=Tryz.func209.trans (congrArg pp (by kernel_rfl))
 f301:=Tryz.func210.trans (congrArg pp (by kernel_rfl))
 f328:=Tryz.func255.trans (congrArg pp (by kernel_rfl))
 f329:=Tryz.func256.trans (congrArg pp (by kernel_rfl))
 f330:=Tryz.func257.trans (congrArg pp (by kernel_rfl))
 f331:=Tryz.func258.trans (congrArg pp (by kernel_rfl))
 f332:=Tryz.func259.trans (congrArg pp (by kernel_rfl))
 f343:=Tryz.func295.trans (congrArg pp (by kernel_rfl))
 t0:=Tryz.underlying0
 a0:=Tryz.isAgg0
 z0:=Tryz.sizeOf0
 v0:=Tryz.zeroValue0
 t3:=Tryz.underlying3
 a3:=Tryz.isAgg3
 z3:=Tryz.sizeOf3
 v3:=Tryz.zeroValue3
 t4:=Tryz.underlying4
 a4:=Tryz.isAgg4
 z4:=Tryz.sizeOf4
 v4:=Tryz.zeroValue4
 t5:=Tryz.underlying5
 a5:=Tryz.isAgg5
 z5:=Tryz.sizeOf5
 v5:=Tryz.zeroValue5
 t9:=Tryz.underlying9
 a9:=Tryz.isAgg9
 z9:=Tryz.sizeOf9
 v9:=Tryz.zeroValue9
 t28:=Tryz.underlying30
 a28:=Tryz.isAgg30
 z28:=Tryz.sizeOf30
 v28:=Tryz.zeroValue30
 t46:=Tryz.underlying205
 a46:=Tryz.isAgg205
 z46:=Tryz.sizeOf205
 v46:=Tryz.zeroValue205
 t51:=Tryz.underlying285
 a51:=Tryz.isAgg285
 z51:=Tryz.sizeOf285
 v51:=Tryz.zeroValue285
 t53:=Tryz.underlying143
 a53:=Tryz.isAgg143
 z53:=Tryz.sizeOf143
 v53:=Tryz.zeroValue143
 t131:=Tryz.underlying238
 a131:=Tryz.isAgg238
 z131:=Tryz.sizeOf238
 v131:=Tryz.zeroValue238
 t182:=Tryz.underlying277
 a182:=Tryz.isAgg277
 z182:=Tryz.sizeOf277
 v182:=Tryz.zeroValue277
 t183:=Tryz.underlying278
 a183:=Tryz.isAgg278
 z183:=Tryz.sizeOf278
 v183:=Tryz.zeroValue278
 t218:=Tryz.underlying327
 a218:=Tryz.isAgg327
 z218:=Tryz.sizeOf327
 v218:=Tryz.zeroValue327
 t222:=Tryz.underlying331
 a222:=Tryz.isAgg331
 z222:=Tryz.sizeOf331
 v222:=Tryz.zeroValue331
 t228:=Tryz.underlying364
 a228:=Tryz.isAgg364
 z228:=Tryz.sizeOf364
 v228:=Tryz.zeroValue364
 t229:=Tryz.underlying66
 a229:=Tryz.isAgg66
 z229:=Tryz.sizeOf66
 v229:=Tryz.zeroValue66
theorem Rv:mE Tryz.prog 70 NG:=
 mE.int (fun cY off cap zs w hH hb hz=>calls_of_every_depth fun D=>AnyS.slices_Sort_int_alone Ue D cY off cap zs w hH hb hz)
  (fun p cap w=>calls_of_every_depth fun D=>AnyS.slices_Sort_int_none_alone Ue D p cap w)
theorem ahu:K1 Tryz.prog 70 (JB NG):=by
 cases hc:Tryz.f70.body with
 |none=>exact absurd hc (by intro h;cases h)
 |some c=>exact K1.srt Tryz.func70 (by kernel_rfl) hc rfl Rv
end Go.Proofs.YtlnclppkepgdmaaGreat
