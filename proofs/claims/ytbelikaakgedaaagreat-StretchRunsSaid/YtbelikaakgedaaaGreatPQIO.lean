/- slices.Sort of numbers: what the library's law says of the program's function. Printed by a program. -/
import Derived.Test.YtbelikaakgedaaaGreatPVm3
import Derived.Shelf.Slices.In.SortNone
import Derived.Shelf.Slices.In.SortAlone
import Derived.Sort.EveryDepth
import Derived.Test.YtbelikaakgedaaaGreatChecked
open Option renaming some->If
set_option maxRecDepth 100000
namespace Go.Proofs.YtbelikaakgedaaaGreat
open Go.Vm Go.Shelf
def akc:Go.Shelf.Ren:=⟨λ|125=>225|128=>302|129=>303|189=>140|215=>349|216=>299|257=>224|294=>293|295=>294|296=>295|297=>296|298=>297|299=>298|328=>344|329=>345|330=>346|331=>347|332=>348|343=>376|n=>n,λ|28=>30|46=>301|51=>372|53=>137|131=>322|182=>365|183=>366|218=>417|222=>421|228=>449|229=>450|n=>n,λn=>n⟩
theorem acm:Lays.n189 Tryz.prog akc where
 mixed:=by kernel_rfl
 f125:=Tryz.func225.trans (congrArg If (by kernel_rfl))
 f128:=Tryz.func302.trans (congrArg If (by kernel_rfl))
 f129:=Tryz.func303.trans (congrArg If (by kernel_rfl))
 f189:=Tryz.func140.trans (congrArg If (by kernel_rfl))
 f215:=Tryz.func349.trans (congrArg If (by kernel_rfl))
 f216:=Tryz.func299.trans (congrArg If (by kernel_rfl))
 f257:=Tryz.func224.trans (congrArg If (by kernel_rfl))
 f294:=Tryz.func293.trans (congrArg If (by kernel_rfl))
 f295:=Tryz.func294.trans (congrArg If (by kernel_rfl))
 f296:=Tryz.func295.trans (congrArg If (by kernel_rfl))
 f297:=Tryz.func296.trans (congrArg If (by kernel_rfl))
 f298:=Tryz.func297.trans (congrArg If (by kernel_rfl))
 f299:=Tryz.func298.trans (congrArg If (by kernel_rfl))
 f300:=Tryz.func300.trans (congrArg If (by kernel_rfl))
 f301:=Tryz.func301.trans (congrArg If (by kernel_rfl))
 f328:=Tryz.func344.trans (congrArg If (by kernel_rfl))
 f329:=Tryz.func345.trans (congrArg If (by kernel_rfl))
 f330:=Tryz.func346.trans (congrArg If (by kernel_rfl))
 f331:=Tryz.func347.trans (congrArg If (by kernel_rfl))
 f332:=Tryz.func348.trans (congrArg If (by kernel_rfl))
 f343:=Tryz.func376.trans (congrArg If (by kernel_rfl))
 t0:=Tryz.underlying0
 a0:=Tryz.isAgg0
 z0:=Tryz.sizeOf0
 v0:=Tryz.zeroValue0
 t3:=Tryz.underlying3
 a3:=Tryz.isAgg3
 z3:=Tryz.sizeOf3
 v3:=Tryz.zeroValue3
 t4:=Tryz.underlying4
 a4:=Tryz.isAgg4
 z4:=Tryz.sizeOf4
 v4:=Tryz.zeroValue4
 t5:=Tryz.underlying5
 a5:=Tryz.isAgg5
 z5:=Tryz.sizeOf5
 v5:=Tryz.zeroValue5
 t9:=Tryz.underlying9
 a9:=Tryz.isAgg9
 z9:=Tryz.sizeOf9
 v9:=Tryz.zeroValue9
 t28:=Tryz.underlying30
 a28:=Tryz.isAgg30
 z28:=Tryz.sizeOf30
 v28:=Tryz.zeroValue30
 t46:=Tryz.underlying301
 a46:=Tryz.isAgg301
 z46:=Tryz.sizeOf301
 v46:=Tryz.zeroValue301
 t51:=Tryz.underlying372
 a51:=Tryz.isAgg372
 z51:=Tryz.sizeOf372
 v51:=Tryz.zeroValue372
 t53:=Tryz.underlying137
 a53:=Tryz.isAgg137
 z53:=Tryz.sizeOf137
 v53:=Tryz.zeroValue137
 t131:=Tryz.underlying322
 a131:=Tryz.isAgg322
 z131:=Tryz.sizeOf322
 v131:=Tryz.zeroValue322
 t182:=Tryz.underlying365
 a182:=Tryz.isAgg365
 z182:=Tryz.sizeOf365
 v182:=Tryz.zeroValue365
 t183:=Tryz.underlying366
 a183:=Tryz.isAgg366
 z183:=Tryz.sizeOf366
 v183:=Tryz.zeroValue366
 t218:=Tryz.underlying417
 a218:=Tryz.isAgg417
 z218:=Tryz.sizeOf417
 v218:=Tryz.zeroValue417
 t222:=Tryz.underlying421
 a222:=Tryz.isAgg421
 z222:=Tryz.sizeOf421
 v222:=Tryz.zeroValue421
 t228:=Tryz.underlying449
 a228:=Tryz.isAgg449
 z228:=Tryz.sizeOf449
 v228:=Tryz.zeroValue449
 t229:=Tryz.underlying450
 a229:=Tryz.isAgg450
 z229:=Tryz.sizeOf450
 v229:=Tryz.zeroValue450
theorem h1S:E4 Tryz.prog 140 VI:=
 E4.int (λeK off cap zs w hH hb hz=>calls_of_every_depth λQJ=>AnyS.slices_Sort_int_alone acm QJ eK off cap zs w hH hb hz)
  (λp cap w=>calls_of_every_depth λQJ=>AnyS.slices_Sort_int_none_alone acm QJ p cap w)
theorem akd:Ij Tryz.prog 140 (Q9 VI):=by
 cases hc:Tryz.f140.body with
 |none=>exact absurd hc (by intro h;cases h)
 |some c=>exact Ij.TA Tryz.func140 (by kernel_rfl) hc rfl h1S
end Go.Proofs.YtbelikaakgedaaaGreat
