/- slices.Sort of numbers: what the library's law says of the program's function. Printed by a program. -/
import Derived.Test.YtclphlgnjkajbaaGreatSVm4
import Derived.Shelf.Slices.In.SortNone
import Derived.Shelf.Slices.In.SortAlone
import Derived.Sort.EveryDepth
import Derived.Test.YtclphlgnjkajbaaGreatChecked
open Option renaming some->v6
set_option maxRecDepth 100000
namespace Go.Proofs.YtclphlgnjkajbaaGreat
open Go.Vm Go.Shelf
def ac4:Go.Shelf.Ren:=⟨fun|125=>165|128=>274|129=>275|189=>84|215=>277|216=>271|257=>164|294=>265|295=>266|296=>267|297=>268|298=>269|299=>270|300=>272|301=>273|328=>347|329=>348|330=>349|331=>350|332=>351|343=>392|n=>n,fun|28=>24|46=>167|51=>262|53=>211|131=>164|182=>349|183=>350|218=>418|222=>422|228=>460|229=>461|n=>n,fun n=>n⟩
theorem Sh:Lays.n189 Tryz.prog ac4 where
 mixed:=by kernel_rfl
 f125:=Tryz.func165.trans (congrArg v6 (by kernel_rfl))
 f128:=Tryz.func274.trans (congrArg v6 (by kernel_rfl))
 f129:=Tryz.func275.trans (congrArg v6 (by kernel_rfl))
 f189:=Tryz.func84.trans (congrArg v6 (by kernel_rfl))
 f215:=Tryz.func277.trans (congrArg v6 (by kernel_rfl))
 f216:=Tryz.func271.trans (congrArg v6 (by kernel_rfl))
 f257:=Tryz.func164.trans (congrArg v6 (by kernel_rfl))
 f294:=Tryz.func265.trans (congrArg v6 (by kernel_rfl))
 f295:=Tryz.func266.trans (congrArg v6 (by kernel_rfl))
 f296:=Tryz.func267.trans (congrArg v6 (by kernel_rfl))
 f297:=Tryz.func268.trans (congrArg v6 (by kernel_rfl))
 f298:=Tryz.func269.trans (congrArg v6 (by kernel_rfl))
 f299:=Tryz.func270.trans (congrArg v6 (by kernel_rfl))
 f300:=Tryz.func272.trans (congrArg v6 (by kernel_rfl))
 f301:=Tryz.func273.trans (congrArg v6 (by kernel_rfl))
 f328:=Tryz.func347.trans (congrArg v6 (by kernel_rfl))
 f329:=Tryz.func348.trans (congrArg v6 (by kernel_rfl))
 f330:=Tryz.func349.trans (congrArg v6 (by kernel_rfl))
 f331:=Tryz.func350.trans (congrArg v6 (by kernel_rfl))
 f332:=Tryz.func351.trans (congrArg v6 (by kernel_rfl))
 f343:=Tryz.func392.trans (congrArg v6 (by kernel_rfl))
 t0:=Tryz.underlying0
 a0:=Tryz.isAgg0
 z0:=Tryz.sizeOf0
 v0:=Tryz.zeroValue0
 t3:=Tryz.underlying3
 a3:=Tryz.isAgg3
 z3:=Tryz.sizeOf3
 v3:=Tryz.zeroValue3
 t4:=Tryz.underlying4
 a4:=Tryz.isAgg4
 z4:=Tryz.sizeOf4
 v4:=Tryz.zeroValue4
 t5:=Tryz.underlying5
 a5:=Tryz.isAgg5
 z5:=Tryz.sizeOf5
 v5:=Tryz.zeroValue5
 t9:=Tryz.underlying9
 a9:=Tryz.isAgg9
 z9:=Tryz.sizeOf9
 v9:=Tryz.zeroValue9
 t28:=Tryz.underlying24
 a28:=Tryz.isAgg24
 z28:=Tryz.sizeOf24
 v28:=Tryz.zeroValue24
 t46:=Tryz.underlying167
 a46:=Tryz.isAgg167
 z46:=Tryz.sizeOf167
 v46:=Tryz.zeroValue167
 t51:=Tryz.underlying262
 a51:=Tryz.isAgg262
 z51:=Tryz.sizeOf262
 v51:=Tryz.zeroValue262
 t53:=Tryz.underlying211
 a53:=Tryz.isAgg211
 z53:=Tryz.sizeOf211
 v53:=Tryz.zeroValue211
 t131:=Tryz.underlying164
 a131:=Tryz.isAgg164
 z131:=Tryz.sizeOf164
 v131:=Tryz.zeroValue164
 t182:=Tryz.underlying349
 a182:=Tryz.isAgg349
 z182:=Tryz.sizeOf349
 v182:=Tryz.zeroValue349
 t183:=Tryz.underlying350
 a183:=Tryz.isAgg350
 z183:=Tryz.sizeOf350
 v183:=Tryz.zeroValue350
 t218:=Tryz.underlying418
 a218:=Tryz.isAgg418
 z218:=Tryz.sizeOf418
 v218:=Tryz.zeroValue418
 t222:=Tryz.underlying422
 a222:=Tryz.isAgg422
 z222:=Tryz.sizeOf422
 v222:=Tryz.zeroValue422
 t228:=Tryz.underlying460
 a228:=Tryz.isAgg460
 z228:=Tryz.sizeOf460
 v228:=Tryz.zeroValue460
 t229:=Tryz.underlying461
 a229:=Tryz.isAgg461
 z229:=Tryz.sizeOf461
 v229:=Tryz.zeroValue461
theorem PN:xp Tryz.prog 84 Mk:=
 xp.int (fun c6 off cap zs w hH hb hz=>calls_of_every_depth fun D=>AnyS.slices_Sort_int_alone Sh D c6 off cap zs w hH hb hz)
  (fun p cap w=>calls_of_every_depth fun D=>AnyS.slices_Sort_int_none_alone Sh D p cap w)
theorem ac5:AA Tryz.prog 84 (Ih Mk):=by
 cases hc:Tryz.f84.body with
 |none=>exact absurd hc (by intro h;cases h)
 |some c=>exact AA.srt Tryz.func84 (by kernel_rfl) hc rfl PN
end Go.Proofs.YtclphlgnjkajbaaGreat
