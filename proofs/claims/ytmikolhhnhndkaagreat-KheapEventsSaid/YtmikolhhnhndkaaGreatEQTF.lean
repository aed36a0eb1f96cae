/- The laying of slices.SortFunc. Printed by a program. -/
import Derived.Test.YtmikolhhnhndkaaGreatEVm4
import Derived.Test.YtmikolhhnhndkaaGreatChecked
open Option renaming some->ut
set_option maxRecDepth 100000
namespace Go.Proofs.YtmikolhhnhndkaaGreat
open Go.Vm Go.Shelf
def adf:Go.Shelf.Ren:=⟨fun|6=>74|14=>114|15=>115|20=>141|21=>142|22=>143|23=>144|24=>145|25=>146|26=>147|27=>148|28=>149|29=>150|46=>174|47=>175|48=>176|49=>177|50=>178|57=>193|n=>n,fun|22=>52|24=>57|25=>143|39=>193|45=>224|46=>225|50=>144|53=>231|55=>76|66=>260|70=>264|76=>281|77=>282|n=>n,fun n=>n⟩
theorem adg:SlLaysF0.n6 Tryz.prog adf where
 mixed:=by kernel_rfl
 f6:=⟨ "slices.SortFunc[[]peloton/api.Meeting,peloton/api.Meeting]",by kernel_rfl,Tryz.func74.trans (congrArg ut (by kernel_rfl))⟩
 f14:=⟨ "slices.pdqsortCmpFunc[peloton/api.Meeting]",by kernel_rfl,Tryz.func114.trans (congrArg ut (by kernel_rfl))⟩
 f15:=Tryz.func115.trans (congrArg ut (by kernel_rfl))
 f20:=⟨ "slices.insertionSortCmpFunc[peloton/api.Meeting]",by kernel_rfl,Tryz.func141.trans (congrArg ut (by kernel_rfl))⟩
 f21:=⟨ "slices.heapSortCmpFunc[peloton/api.Meeting]",by kernel_rfl,Tryz.func142.trans (congrArg ut (by kernel_rfl))⟩
 f22:=⟨ "slices.breakPatternsCmpFunc[peloton/api.Meeting]",by kernel_rfl,Tryz.func143.trans (congrArg ut (by kernel_rfl))⟩
 f23:=⟨ "slices.choosePivotCmpFunc[peloton/api.Meeting]",by kernel_rfl,Tryz.func144.trans (congrArg ut (by kernel_rfl))⟩
 f24:=⟨ "slices.reverseRangeCmpFunc[peloton/api.Meeting]",by kernel_rfl,Tryz.func145.trans (congrArg ut (by kernel_rfl))⟩
 f25:=⟨ "slices.partialInsertionSortCmpFunc[peloton/api.Meeting]",by kernel_rfl,Tryz.func146.trans (congrArg ut (by kernel_rfl))⟩
 f26:=⟨ "slices.partitionEqualCmpFunc[peloton/api.Meeting]",by kernel_rfl,Tryz.func147.trans (congrArg ut (by kernel_rfl))⟩
 f27:=⟨ "slices.partitionCmpFunc[peloton/api.Meeting]",by kernel_rfl,Tryz.func148.trans (congrArg ut (by kernel_rfl))⟩
 f28:=Tryz.func149.trans (congrArg ut (by kernel_rfl))
 f29:=Tryz.func150.trans (congrArg ut (by kernel_rfl))
 f46:=⟨ "slices.siftDownCmpFunc[peloton/api.Meeting]",by kernel_rfl,Tryz.func174.trans (congrArg ut (by kernel_rfl))⟩
 f47:=Tryz.func175.trans (congrArg ut (by kernel_rfl))
 f48:=Tryz.func176.trans (congrArg ut (by kernel_rfl))
 f49:=⟨ "slices.medianAdjacentCmpFunc[peloton/api.Meeting]",by kernel_rfl,Tryz.func177.trans (congrArg ut (by kernel_rfl))⟩
 f50:=⟨ "slices.medianCmpFunc[peloton/api.Meeting]",by kernel_rfl,Tryz.func178.trans (congrArg ut (by kernel_rfl))⟩
 f57:=⟨ "slices.order2CmpFunc[peloton/api.Meeting]",by kernel_rfl,Tryz.func193.trans (congrArg ut (by kernel_rfl))⟩
 t0:=Tryz.underlying0
 a0:=Tryz.isAgg0
 z0:=Tryz.sizeOf0
 v0:=Tryz.zeroValue0
 t3:=Tryz.underlying3
 a3:=Tryz.isAgg3
 z3:=Tryz.sizeOf3
 v3:=Tryz.zeroValue3
 t4:=Tryz.underlying4
 a4:=Tryz.isAgg4
 z4:=Tryz.sizeOf4
 v4:=Tryz.zeroValue4
 t5:=Tryz.underlying5
 a5:=Tryz.isAgg5
 z5:=Tryz.sizeOf5
 v5:=Tryz.zeroValue5
 t9:=Tryz.underlying9
 a9:=Tryz.isAgg9
 z9:=Tryz.sizeOf9
 v9:=Tryz.zeroValue9
 t22:=Tryz.underlying52
 a22:=Tryz.isAgg52
 z22:=Tryz.sizeOf52
 v22:=Tryz.zeroValue52
 t25:=Tryz.underlying143
 a25:=Tryz.isAgg143
 z25:=Tryz.sizeOf143
 v25:=Tryz.zeroValue143
 t39:=Tryz.underlying193
 a39:=Tryz.isAgg193
 z39:=Tryz.sizeOf193
 v39:=Tryz.zeroValue193
 t45:=Tryz.underlying224
 a45:=Tryz.isAgg224
 z45:=Tryz.sizeOf224
 v45:=Tryz.zeroValue224
 t46:=Tryz.underlying225
 a46:=Tryz.isAgg225
 z46:=Tryz.sizeOf225
 v46:=Tryz.zeroValue225
 t50:=Tryz.underlying144
 a50:=Tryz.isAgg144
 z50:=Tryz.sizeOf144
 v50:=Tryz.zeroValue144
 t53:=Tryz.underlying231
 a53:=Tryz.isAgg231
 z53:=Tryz.sizeOf231
 v53:=Tryz.zeroValue231
 t55:=Tryz.underlying76
 a55:=Tryz.isAgg76
 z55:=Tryz.sizeOf76
 v55:=Tryz.zeroValue76
 t66:=Tryz.underlying260
 a66:=Tryz.isAgg260
 z66:=Tryz.sizeOf260
 v66:=Tryz.zeroValue260
 t70:=Tryz.underlying264
 a70:=Tryz.isAgg264
 z70:=Tryz.sizeOf264
 v70:=Tryz.zeroValue264
 t76:=Tryz.underlying281
 a76:=Tryz.isAgg281
 z76:=Tryz.sizeOf281
 v76:=Tryz.zeroValue281
 t77:=Tryz.underlying282
 a77:=Tryz.isAgg282
 z77:=Tryz.sizeOf282
 v77:=Tryz.zeroValue282
end Go.Proofs.YtmikolhhnhndkaaGreat
