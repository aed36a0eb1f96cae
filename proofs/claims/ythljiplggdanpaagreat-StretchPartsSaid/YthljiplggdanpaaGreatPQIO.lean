/- slices.Sort of numbers: what the library's law says of the program's function. Printed by a program. -/
import Derived.Test.YthljiplggdanpaaGreatPVm3
import Derived.Shelf.Slices.In.SortNone
import Derived.Shelf.Slices.In.SortAlone
import Derived.Sort.EveryDepth
import Derived.Test.YthljiplggdanpaaGreatChecked
open Option renaming some->EQ
set_option maxRecDepth 100000
namespace Go.Proofs.YthljiplggdanpaaGreat
open Go.Vm Go.Shelf
def agi:Go.Shelf.Ren:=⟨fun|125=>197|128=>259|129=>260|189=>142|215=>297|216=>256|257=>196|294=>250|295=>251|296=>252|297=>253|298=>254|299=>255|300=>257|301=>258|328=>292|329=>293|330=>294|331=>295|332=>296|343=>314|n=>n,fun|28=>30|46=>271|51=>330|53=>165|131=>292|182=>323|183=>324|218=>366|222=>370|228=>387|229=>388|n=>n,fun n=>n⟩
theorem Zn:Lays.n189 Tryz.prog agi where
 mixed:=by kernel_rfl
 f125:=Tryz.func197.trans (congrArg EQ (by kernel_rfl))
 f128:=Tryz.func259.trans (congrArg EQ (by kernel_rfl))
 f129:=Tryz.func260.trans (congrArg EQ (by kernel_rfl))
 f189:=Tryz.func142.trans (congrArg EQ (by kernel_rfl))
 f215:=Tryz.func297.trans (congrArg EQ (by kernel_rfl))
 f216:=Tryz.func256.trans (congrArg EQ (by kernel_rfl))
 f257:=Tryz.func196.trans (congrArg EQ (by kernel_rfl))
 f294:=Tryz.func250.trans (congrArg EQ (by kernel_rfl))
 f295:=Tryz.func251.trans (congrArg EQ (by kernel_rfl))
 f296:=Tryz.func252.trans (congrArg EQ (by kernel_rfl))
 f297:=Tryz.func253.trans (congrArg EQ (by kernel_rfl))
 f298:=Tryz.func254.trans (congrArg EQ (by kernel_rfl))
 f299:=Tryz.func255.trans (congrArg EQ (by kernel_rfl))
 f300:=Tryz.func257.trans (congrArg EQ (by kernel_rfl))
 f301:=Tryz.func258.trans (congrArg EQ (by kernel_rfl))
 f328:=Tryz.func292.trans (congrArg EQ (by kernel_rfl))
 f329:=Tryz.func293.trans (congrArg EQ (by kernel_rfl))
 f330:=Tryz.func294.trans (congrArg EQ (by kernel_rfl))
 f331:=Tryz.func295.trans (congrArg EQ (by kernel_rfl))
 f332:=Tryz.func296.trans (congrArg EQ (by kernel_rfl))
 f343:=Tryz.func314.trans (congrArg EQ (by kernel_rfl))
 t0:=Tryz.underlying0
 a0:=Tryz.isAgg0
 z0:=Tryz.sizeOf0
 v0:=Tryz.zeroValue0
 t3:=Tryz.underlying3
 a3:=Tryz.isAgg3
 z3:=Tryz.sizeOf3
 v3:=Tryz.zeroValue3
 t4:=Tryz.underlying4
 a4:=Tryz.isAgg4
 z4:=Tryz.sizeOf4
 v4:=Tryz.zeroValue4
 t5:=Tryz.underlying5
 a5:=Tryz.isAgg5
 z5:=Tryz.sizeOf5
 v5:=Tryz.zeroValue5
 t9:=Tryz.underlying9
 a9:=Tryz.isAgg9
 z9:=Tryz.sizeOf9
 v9:=Tryz.zeroValue9
 t28:=Tryz.underlying30
 a28:=Tryz.isAgg30
 z28:=Tryz.sizeOf30
 v28:=Tryz.zeroValue30
 t46:=Tryz.underlying271
 a46:=Tryz.isAgg271
 z46:=Tryz.sizeOf271
 v46:=Tryz.zeroValue271
 t51:=Tryz.underlying330
 a51:=Tryz.isAgg330
 z51:=Tryz.sizeOf330
 v51:=Tryz.zeroValue330
 t53:=Tryz.underlying165
 a53:=Tryz.isAgg165
 z53:=Tryz.sizeOf165
 v53:=Tryz.zeroValue165
 t131:=Tryz.underlying292
 a131:=Tryz.isAgg292
 z131:=Tryz.sizeOf292
 v131:=Tryz.zeroValue292
 t182:=Tryz.underlying323
 a182:=Tryz.isAgg323
 z182:=Tryz.sizeOf323
 v182:=Tryz.zeroValue323
 t183:=Tryz.underlying324
 a183:=Tryz.isAgg324
 z183:=Tryz.sizeOf324
 v183:=Tryz.zeroValue324
 t218:=Tryz.underlying366
 a218:=Tryz.isAgg366
 z218:=Tryz.sizeOf366
 v218:=Tryz.zeroValue366
 t222:=Tryz.underlying370
 a222:=Tryz.isAgg370
 z222:=Tryz.sizeOf370
 v222:=Tryz.zeroValue370
 t228:=Tryz.underlying387
 a228:=Tryz.isAgg387
 z228:=Tryz.sizeOf387
 v228:=Tryz.zeroValue387
 t229:=Tryz.underlying388
 a229:=Tryz.isAgg388
 z229:=Tryz.sizeOf388
 v229:=Tryz.zeroValue388
theorem Wy:Cz Tryz.prog 142 SC:=
 Cz.int (fun eg off cap zs w hH hb hz=>calls_of_every_depth fun D=>AnyS.slices_Sort_int_alone Zn D eg off cap zs w hH hb hz)
  (fun p cap w=>calls_of_every_depth fun D=>AnyS.slices_Sort_int_none_alone Zn D p cap w)
theorem agj:Fs Tryz.prog 142 (Od SC):=by
 cases hc:Tryz.f142.body with
 |none=>exact absurd hc (by intro h;cases h)
 |some c=>exact Fs.srt Tryz.func142 (by kernel_rfl) hc rfl Wy
end Go.Proofs.YthljiplggdanpaaGreat
