/- The laying of slices.SortFunc. Printed by a program. -/
import Derived.Test.YtcljjehjppgijaaGreatWVm4
import Derived.Test.YtcljjehjppgijaaGreatChecked
open Option renaming some->lw
set_option maxRecDepth 100000
namespace Go.Proofs.YtcljjehjppgijaaGreat
open Go.Vm Go.Shelf
def agL:Go.Shelf.Ren:=⟨fun|6=>141|14=>206|15=>207|20=>247|21=>248|22=>249|23=>250|24=>251|25=>252|26=>253|27=>254|28=>255|29=>256|46=>278|47=>279|48=>280|49=>281|50=>282|57=>293|n=>n,fun|22=>67|24=>73|25=>219|39=>293|45=>329|46=>330|50=>194|53=>336|55=>137|66=>365|70=>369|76=>381|77=>382|n=>n,fun n=>n⟩
theorem agM:SlLaysF0.n6 Tryz.prog agL where
 mixed:=by kernel_rfl
 f6:=⟨ "slices.SortFunc[[]peloton/api.Meeting,peloton/api.Meeting]",by kernel_rfl,Tryz.func141.trans (congrArg lw (by kernel_rfl))⟩
 f14:=⟨ "slices.pdqsortCmpFunc[peloton/api.Meeting]",by kernel_rfl,Tryz.func206.trans (congrArg lw (by kernel_rfl))⟩
 f15:=Tryz.func207.trans (congrArg lw (by kernel_rfl))
 f20:=⟨ "slices.insertionSortCmpFunc[peloton/api.Meeting]",by kernel_rfl,Tryz.func247.trans (congrArg lw (by kernel_rfl))⟩
 f21:=⟨ "slices.heapSortCmpFunc[peloton/api.Meeting]",by kernel_rfl,Tryz.func248.trans (congrArg lw (by kernel_rfl))⟩
 f22:=⟨ "slices.breakPatternsCmpFunc[peloton/api.Meeting]",by kernel_rfl,Tryz.func249.trans (congrArg lw (by kernel_rfl))⟩
 f23:=⟨ "slices.choosePivotCmpFunc[peloton/api.Meeting]",by kernel_rfl,Tryz.func250.trans (congrArg lw (by kernel_rfl))⟩
 f24:=⟨ "slices.reverseRangeCmpFunc[peloton/api.Meeting]",by kernel_rfl,Tryz.func251.trans (congrArg lw (by kernel_rfl))⟩
 f25:=⟨ "slices.partialInsertionSortCmpFunc[peloton/api.Meeting]",by kernel_rfl,Tryz.func252.trans (congrArg lw (by kernel_rfl))⟩
 f26:=⟨ "slices.partitionEqualCmpFunc[peloton/api.Meeting]",by kernel_rfl,Tryz.func253.trans (congrArg lw (by kernel_rfl))⟩
 f27:=⟨ "slices.partitionCmpFunc[peloton/api.Meeting]",by kernel_rfl,Tryz.func254.trans (congrArg lw (by kernel_rfl))⟩
 f28:=Tryz.func255.trans (congrArg lw (by kernel_rfl))
 f29:=Tryz.func256.trans (congrArg lw (by kernel_rfl))
 f46:=⟨ "slices.siftDownCmpFunc[peloton/api.Meeting]",by kernel_rfl,Tryz.func278.trans (congrArg lw (by kernel_rfl))⟩
 f47:=Tryz.func279.trans (congrArg lw (by kernel_rfl))
 f48:=Tryz.func280.trans (congrArg lw (by kernel_rfl))
 f49:=⟨ "slices.medianAdjacentCmpFunc[peloton/api.Meeting]",by kernel_rfl,Tryz.func281.trans (congrArg lw (by kernel_rfl))⟩
 f50:=⟨ "slices.medianCmpFunc[peloton/api.Meeting]",by kernel_rfl,Tryz.func282.trans (congrArg lw (by kernel_rfl))⟩
 f57:=⟨ "slices.order2CmpFunc[peloton/api.Meeting]",by kernel_rfl,Tryz.func293.trans (congrArg lw (by kernel_rfl))⟩
 t0:=Tryz.underlying0
 a0:=Tryz.isAgg0
 z0:=Tryz.sizeOf0
 v0:=Tryz.zeroValue0
 t3:=Tryz.underlying3
 a3:=Tryz.isAgg3
 z3:=Tryz.sizeOf3
 v3:=Tryz.zeroValue3
 t4:=Tryz.underlying4
 a4:=Tryz.isAgg4
 z4:=Tryz.sizeOf4
 v4:=Tryz.zeroValue4
 t5:=Tryz.underlying5
 a5:=Tryz.isAgg5
 z5:=Tryz.sizeOf5
 v5:=Tryz.zeroValue5
 t9:=Tryz.underlying9
 a9:=Tryz.isAgg9
 z9:=Tryz.sizeOf9
 v9:=Tryz.zeroValue9
 t22:=Tryz.underlying67
 a22:=Tryz.isAgg67
 z22:=Tryz.sizeOf67
 v22:=Tryz.zeroValue67
 t25:=Tryz.underlying219
 a25:=Tryz.isAgg219
 z25:=Tryz.sizeOf219
 v25:=Tryz.zeroValue219
 t39:=Tryz.underlying293
 a39:=Tryz.isAgg293
 z39:=Tryz.sizeOf293
 v39:=Tryz.zeroValue293
 t45:=Tryz.underlying329
 a45:=Tryz.isAgg329
 z45:=Tryz.sizeOf329
 v45:=Tryz.zeroValue329
 t46:=Tryz.underlying330
 a46:=Tryz.isAgg330
 z46:=Tryz.sizeOf330
 v46:=Tryz.zeroValue330
 t50:=Tryz.underlying194
 a50:=Tryz.isAgg194
 z50:=Tryz.sizeOf194
 v50:=Tryz.zeroValue194
 t53:=Tryz.underlying336
 a53:=Tryz.isAgg336
 z53:=Tryz.sizeOf336
 v53:=Tryz.zeroValue336
 t55:=Tryz.underlying137
 a55:=Tryz.isAgg137
 z55:=Tryz.sizeOf137
 v55:=Tryz.zeroValue137
 t66:=Tryz.underlying365
 a66:=Tryz.isAgg365
 z66:=Tryz.sizeOf365
 v66:=Tryz.zeroValue365
 t70:=Tryz.underlying369
 a70:=Tryz.isAgg369
 z70:=Tryz.sizeOf369
 v70:=Tryz.zeroValue369
 t76:=Tryz.underlying381
 a76:=Tryz.isAgg381
 z76:=Tryz.sizeOf381
 v76:=Tryz.zeroValue381
 t77:=Tryz.underlying382
 a77:=Tryz.isAgg382
 z77:=Tryz.sizeOf382
 v77:=Tryz.zeroValue382
end Go.Proofs.YtcljjehjppgijaaGreat
