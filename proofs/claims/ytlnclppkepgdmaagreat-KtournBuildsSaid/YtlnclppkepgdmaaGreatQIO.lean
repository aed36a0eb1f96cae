/- slices.Sort of numbers: what the library's law says of the program's function. Printed by a program. -/
import Derived.Test.YtlnclppkepgdmaaGreatVm3
import Derived.Ground.NamesProg
import Derived.Shelf.Lay
import Derived.Shelf.Slices.In.SortNone
import Derived.Shelf.Slices.In.SortAlone
import Derived.Sort.EveryDepth
import Derived.Test.YtlnclppkepgdmaaGreatChecked
set_option maxRecDepth 100000
namespace Go.Proofs
open Go.Shelf
shelf_lay Lays.n189 Nm 189 at Tryz as Tryz.laysSort
end Go.Proofs
namespace Go.Proofs.YtlnclppkepgdmaaGreat
open Go.Vm
theorem aDi:EJ Tryz.prog 70 Z7:=
 EJ.int (fun blk off cap zs w hH hb hz=>calls_of_every_depth fun D=>AnyS.slices_Sort_int_alone Tryz.laysSort D blk off cap zs w hH hb hz)
  (fun p cap w=>calls_of_every_depth fun D=>AnyS.slices_Sort_int_none_alone Tryz.laysSort D p cap w)
theorem aRD:V6 Tryz.prog 70 (TW Z7):=by
 cases hc:Tryz.f70.body with
 |none=>exact absurd hc (by intro h;cases h)
 |some c=>exact V6.srt Tryz.func70 (by kernel_rfl) hc rfl aDi
end Go.Proofs.YtlnclppkepgdmaaGreat
