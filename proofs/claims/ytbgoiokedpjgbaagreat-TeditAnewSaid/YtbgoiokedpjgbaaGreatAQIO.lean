/- slices.Sort of numbers: what the library's law says of the program's function. Printed by a program. -/
import Derived.Test.YtbgoiokedpjgbaaGreatAVm4
import Derived.Shelf.Slices.In.SortNone
import Derived.Shelf.Slices.In.SortAlone
import Derived.Sort.EveryDepth
import Derived.Test.YtbgoiokedpjgbaaGreatChecked
open Option renaming some->pp
set_option maxRecDepth 100000
namespace Go.Proofs.YtbgoiokedpjgbaaGreat
open Go.Vm Go.Shelf
def ajl:Go.Shelf.Ren:=⟨fun|125=>134|128=>198|129=>199|189=>77|215=>168|216=>195|257=>133|294=>189|295=>190|296=>191|297=>192|298=>193|299=>194|300=>196|301=>197|328=>241|329=>242|330=>243|331=>244|332=>245|343=>277|n=>n,fun|28=>30|46=>127|51=>201|53=>175|131=>103|182=>246|183=>247|218=>296|222=>300|228=>337|229=>53|n=>n,fun n=>n⟩
theorem Ul:Lays.n189 Tryz.prog ajl where
 mixed:=by kernel_rfl
 f125:=Tryz.func134.trans (congrArg pp (by kernel_rfl))
 f128:=Tryz.func198.trans (congrArg pp (by kernel_rfl))
 f129:=Tryz.func199.trans (congrArg pp (by kernel_rfl))
 f189:=Tryz.func77.trans (congrArg pp (by kernel_rfl))
 f215:=Tryz.func168.trans (congrArg pp (by kernel_rfl))
 f216:=Tryz.func195.trans (congrArg pp (by kernel_rfl))
 f257:=Tryz.func133.trans (congrArg pp (by kernel_rfl))
 f294:=Tryz.func189.trans (congrArg pp (by kernel_rfl))
 f295:=Tryz.func190.trans (congrArg pp (by kernel_rfl))
 f296:=Tryz.func191.trans (congrArg pp (by kernel_rfl))
 f297:=Tryz.func192.trans (congrArg pp (by kernel_rfl))
 f298:=Tryz.func193.trans (congrArg pp (by kernel_rfl))
 f299:=Tryz.func194.trans (congrArg pp (by kernel_rfl))
 f300:=Tryz.func196.trans (congrArg pp (by kernel_rfl))
 f301:=Tryz.func197.trans (congrArg pp (by kernel_rfl))
 f328:=Tryz.func241.trans (congrArg pp (by kernel_rfl))
 f329:=Tryz.func242.trans (congrArg pp (by kernel_rfl))
 f330:=Tryz.func243.trans (congrArg pp (by kernel_rfl))
 f331:=Tryz.func244.trans (congrArg pp (by kernel_rfl))
 f332:=Tryz.func245.trans (congrArg pp (by kernel_rfl))
 f343:=Tryz.func277.trans (congrArg pp (by kernel_rfl))
 t0:=Tryz.underlying0
 a0:=Tryz.isAgg0
 z0:=Tryz.sizeOf0
 v0:=Tryz.zeroValue0
 t3:=Tryz.underlying3
 a3:=Tryz.isAgg3
 z3:=Tryz.sizeOf3
 v3:=Tryz.zeroValue3
 t4:=Tryz.underlying4
 a4:=Tryz.isAgg4
 z4:=Tryz.sizeOf4
 v4:=Tryz.zeroValue4
 t5:=Tryz.underlying5
 a5:=Tryz.isAgg5
 z5:=Tryz.sizeOf5
 v5:=Tryz.zeroValue5
 t9:=Tryz.underlying9
 a9:=Tryz.isAgg9
 z9:=Tryz.sizeOf9
 v9:=Tryz.zeroValue9
 t28:=Tryz.underlying30
 a28:=Tryz.isAgg30
 z28:=Tryz.sizeOf30
 v28:=Tryz.zeroValue30
 t46:=Tryz.underlying127
 a46:=Tryz.isAgg127
 z46:=Tryz.sizeOf127
 v46:=Tryz.zeroValue127
 t51:=Tryz.underlying201
 a51:=Tryz.isAgg201
 z51:=Tryz.sizeOf201
 v51:=Tryz.zeroValue201
 t53:=Tryz.underlying175
 a53:=Tryz.isAgg175
 z53:=Tryz.sizeOf175
 v53:=Tryz.zeroValue175
 t131:=Tryz.underlying103
 a131:=Tryz.isAgg103
 z131:=Tryz.sizeOf103
 v131:=Tryz.zeroValue103
 t182:=Tryz.underlying246
 a182:=Tryz.isAgg246
 z182:=Tryz.sizeOf246
 v182:=Tryz.zeroValue246
 t183:=Tryz.underlying247
 a183:=Tryz.isAgg247
 z183:=Tryz.sizeOf247
 v183:=Tryz.zeroValue247
 t218:=Tryz.underlying296
 a218:=Tryz.isAgg296
 z218:=Tryz.sizeOf296
 v218:=Tryz.zeroValue296
 t222:=Tryz.underlying300
 a222:=Tryz.isAgg300
 z222:=Tryz.sizeOf300
 v222:=Tryz.zeroValue300
 t228:=Tryz.underlying337
 a228:=Tryz.isAgg337
 z228:=Tryz.sizeOf337
 v228:=Tryz.zeroValue337
 t229:=Tryz.underlying53
 a229:=Tryz.isAgg53
 z229:=Tryz.sizeOf53
 v229:=Tryz.zeroValue53
theorem Ry:yF Tryz.prog 77 NT:=
 yF.int (fun dw off cap zs w hH hb hz=>calls_of_every_depth fun D=>AnyS.slices_Sort_int_alone Ul D dw off cap zs w hH hb hz)
  (fun p cap w=>calls_of_every_depth fun D=>AnyS.slices_Sort_int_none_alone Ul D p cap w)
theorem ajm:By Tryz.prog 77 (JG NT):=by
 cases hc:Tryz.f77.body with
 |none=>exact absurd hc (by intro h;cases h)
 |some c=>exact By.srt Tryz.func77 (by kernel_rfl) hc rfl Ry
end Go.Proofs.YtbgoiokedpjgbaaGreat
