/- slices.Sort of numbers: what the library's law says of the program's function. Printed by a program. -/
import Derived.Test.YtogihpogmfjoiaaGreatPVm4
import Derived.Shelf.Slices.In.SortNone
import Derived.Shelf.Slices.In.SortAlone
import Derived.Sort.EveryDepth
import Derived.Test.YtogihpogmfjoiaaGreatChecked
set_option maxRecDepth 100000
namespace Go.Proofs.YtogihpogmfjoiaaGreat
open Go.Vm Go.Shelf
def aR3:Go.Shelf.Ren:=⟨fun|125=>145|128=>207|129=>208|189=>89|215=>177|216=>204|257=>144|294=>198|295=>199|296=>200|297=>201|298=>202|299=>203|300=>205|301=>206|328=>249|329=>250|330=>251|331=>252|332=>253|343=>284|n=>n,fun|28=>30|46=>134|51=>207|53=>169|131=>112|182=>251|183=>252|218=>300|222=>304|228=>340|229=>53|n=>n,fun n=>n⟩
theorem aEV:Lays.n189 Tryz.prog aR3 where
 mixed:=by kernel_rfl
 f125:=Tryz.func145.trans (congrArg some (by kernel_rfl))
 f128:=Tryz.func207.trans (congrArg some (by kernel_rfl))
 f129:=Tryz.func208.trans (congrArg some (by kernel_rfl))
 f189:=Tryz.func89.trans (congrArg some (by kernel_rfl))
 f215:=Tryz.func177.trans (congrArg some (by kernel_rfl))
 f216:=Tryz.func204.trans (congrArg some (by kernel_rfl))
 f257:=Tryz.func144.trans (congrArg some (by kernel_rfl))
 f294:=Tryz.func198.trans (congrArg some (by kernel_rfl))
 f295:=Tryz.func199.trans (congrArg some (by kernel_rfl))
 f296:=Tryz.func200.trans (congrArg some (by kernel_rfl))
 f297:=Tryz.func201.trans (congrArg some (by kernel_rfl))
 f298:=Tryz.func202.trans (congrArg some (by kernel_rfl))
 f299:=Tryz.func203.trans (congrArg some (by kernel_rfl))
 f300:=Tryz.func205.trans (congrArg some (by kernel_rfl))
 f301:=Tryz.func206.trans (congrArg some (by kernel_rfl))
 f328:=Tryz.func249.trans (congrArg some (by kernel_rfl))
 f329:=Tryz.func250.trans (congrArg some (by kernel_rfl))
 f330:=Tryz.func251.trans (congrArg some (by kernel_rfl))
 f331:=Tryz.func252.trans (congrArg some (by kernel_rfl))
 f332:=Tryz.func253.trans (congrArg some (by kernel_rfl))
 f343:=Tryz.func284.trans (congrArg some (by kernel_rfl))
 t0:=Tryz.underlying0
 a0:=Tryz.isAgg0
 z0:=Tryz.sizeOf0
 v0:=Tryz.zeroValue0
 t3:=Tryz.underlying3
 a3:=Tryz.isAgg3
 z3:=Tryz.sizeOf3
 v3:=Tryz.zeroValue3
 t4:=Tryz.underlying4
 a4:=Tryz.isAgg4
 z4:=Tryz.sizeOf4
 v4:=Tryz.zeroValue4
 t5:=Tryz.underlying5
 a5:=Tryz.isAgg5
 z5:=Tryz.sizeOf5
 v5:=Tryz.zeroValue5
 t9:=Tryz.underlying9
 a9:=Tryz.isAgg9
 z9:=Tryz.sizeOf9
 v9:=Tryz.zeroValue9
 t28:=Tryz.underlying30
 a28:=Tryz.isAgg30
 z28:=Tryz.sizeOf30
 v28:=Tryz.zeroValue30
 t46:=Tryz.underlying134
 a46:=Tryz.isAgg134
 z46:=Tryz.sizeOf134
 v46:=Tryz.zeroValue134
 t51:=Tryz.underlying207
 a51:=Tryz.isAgg207
 z51:=Tryz.sizeOf207
 v51:=Tryz.zeroValue207
 t53:=Tryz.underlying169
 a53:=Tryz.isAgg169
 z53:=Tryz.sizeOf169
 v53:=Tryz.zeroValue169
 t131:=Tryz.underlying112
 a131:=Tryz.isAgg112
 z131:=Tryz.sizeOf112
 v131:=Tryz.zeroValue112
 t182:=Tryz.underlying251
 a182:=Tryz.isAgg251
 z182:=Tryz.sizeOf251
 v182:=Tryz.zeroValue251
 t183:=Tryz.underlying252
 a183:=Tryz.isAgg252
 z183:=Tryz.sizeOf252
 v183:=Tryz.zeroValue252
 t218:=Tryz.underlying300
 a218:=Tryz.isAgg300
 z218:=Tryz.sizeOf300
 v218:=Tryz.zeroValue300
 t222:=Tryz.underlying304
 a222:=Tryz.isAgg304
 z222:=Tryz.sizeOf304
 v222:=Tryz.zeroValue304
 t228:=Tryz.underlying340
 a228:=Tryz.isAgg340
 z228:=Tryz.sizeOf340
 v228:=Tryz.zeroValue340
 t229:=Tryz.underlying53
 a229:=Tryz.isAgg53
 z229:=Tryz.sizeOf53
 v229:=Tryz.zeroValue53
theorem aDl:EQ Tryz.prog 89 aAa:=
 EQ.int (fun blk off cap zs w hH hb hz=>calls_of_every_depth fun D=>AnyS.slices_Sort_int_alone aEV D blk off cap zs w hH hb hz)
  (fun p cap w=>calls_of_every_depth fun D=>AnyS.slices_Sort_int_none_alone aEV D p cap w)
theorem aR4:IT Tryz.prog 89 (TW aAa):=by
 cases hc:Tryz.f89.body with
 |none=>exact absurd hc (by intro h;cases h)
 |some c=>exact IT.srt Tryz.func89 (by kernel_rfl) hc rfl aDl
end Go.Proofs.YtogihpogmfjoiaaGreat
