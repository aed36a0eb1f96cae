/- The laying of slices.SortFunc. Printed by a program. -/
import Derived.Test.YtlnclppkepgdmaaGreatVVm4
import Derived.Test.YtlnclppkepgdmaaGreatChecked
open Option renaming some->pp
set_option maxRecDepth 100000
namespace Go.Proofs.YtlnclppkepgdmaaGreat
open Go.Vm Go.Shelf
def aiP:Go.Shelf.Ren:=⟨fun|6=>164|14=>230|15=>136|20=>274|21=>275|22=>276|23=>277|24=>278|25=>279|26=>280|27=>281|28=>211|29=>212|46=>301|47=>256|48=>257|49=>302|50=>303|57=>314|n=>n,fun|22=>92|24=>96|25=>237|39=>205|45=>277|46=>278|50=>238|53=>285|55=>143|66=>327|70=>331|76=>364|77=>66|n=>n,fun n=>n⟩
theorem aiQ:SlLaysF0.n6 Tryz.prog aiP where
 mixed:=by kernel_rfl
 f6:=⟨ "slices.SortFunc[[]peloton/api.Meeting,peloton/api.Meeting]",by kernel_rfl,Tryz.func164.trans (congrArg pp (by kernel_rfl))⟩
 f14:=⟨ "slices.pdqsortCmpFunc[peloton/api.Meeting]",by kernel_rfl,Tryz.func230.trans (congrArg pp (by kernel_rfl))⟩
 f15:=Tryz.func136.trans (congrArg pp (by kernel_rfl))
 f20:=⟨ "slices.insertionSortCmpFunc[peloton/api.Meeting]",by kernel_rfl,Tryz.func274.trans (congrArg pp (by kernel_rfl))⟩
 f21:=⟨ "slices.heapSortCmpFunc[peloton/api.Meeting]",by kernel_rfl,Tryz.func275.trans (congrArg pp (by kernel_rfl))⟩
 f22:=⟨ "slices.breakPatternsCmpFunc[peloton/api.Meeting]",by kernel_rfl,Tryz.func276.trans (congrArg pp (by kernel_rfl))⟩
 f23:=⟨ "slices.choosePivotCmpFunc[peloton/api.Meeting]",by kernel_rfl,Tryz.func277.trans (congrArg pp (by kernel_rfl))⟩
 f24:=⟨ "slices.reverseRangeCmpFunc[peloton/api.Meeting]",by kernel_rfl,Tryz.func278.trans (congrArg pp (by kernel_rfl))⟩
 f25:=⟨ "slices.partialInsertionSortCmpFunc[peloton/api.Meeting]",by kernel_rfl,Tryz.func279.trans (congrArg pp (by kernel_rfl))⟩
 f26:=⟨ "slices.partitionEqualCmpFunc[peloton/api.Meeting]",by kernel_rfl,Tryz.func280.trans (congrArg pp (by kernel_rfl))⟩
 f27:=⟨ "slices.partitionCmpFunc[peloton/api.Meeting]",by kernel_rfl,Tryz.func281.trans (congrArg pp (by kernel_rfl))⟩
 f28:=Tryz.func211.trans (congrArg pp (by kernel_rfl))
 f29:=Tryz.func212.trans (congrArg pp (by kernel_rfl))
 f46:=⟨ "slices.siftDownCmpFunc[peloton/api.Meeting]",by kernel_rfl,Tryz.func301.trans (congrArg pp (by kernel_rfl))⟩
 f47:=Tryz.func256.trans (congrArg pp (by kernel_rfl))
 f48:=Tryz.func257.trans (congrArg pp (by kernel_rfl))
 f49:=⟨ "slices.medianAdjacentCmpFunc[peloton/api.Meeting]",by kernel_rfl,Tryz.func302.trans (congrArg pp (by kernel_rfl))⟩
 f50:=⟨ "slices.medianCmpFunc[peloton/api.Meeting]",by kernel_rfl,Tryz.func303.trans (congrArg pp (by kernel_rfl))⟩
 f57:=⟨ "slices.order2CmpFunc[peloton/api.Meeting]",by kernel_rfl,Tryz.func314.trans (congrArg pp (by kernel_rfl))⟩
 t0:=Tryz.underlying0
 a0:=Tryz.isAgg0
 z0:=Tryz.sizeOf0
 v0:=Tryz.zeroValue0
 t3:=Tryz.underlying3
 a3:=Tryz.isAgg3
 z3:=Tryz.sizeOf3
 v3:=Tryz.zeroValue3
 t4:=Tryz.underlying4
 a4:=Tryz.isAgg4
 z4:=Tryz.sizeOf4
 v4:=Tryz.zeroValue4
 t5:=Tryz.underlying5
 a5:=Tryz.isAgg5
 z5:=Tryz.sizeOf5
 v5:=Tryz.zeroValue5
 t9:=Tryz.underlying9
 a9:=Tryz.isAgg9
 z9:=Tryz.sizeOf9
 v9:=Tryz.zeroValue9
 t22:=Tryz.underlying92
 a22:=Tryz.isAgg92
 z22:=Tryz.sizeOf92
 v22:=Tryz.zeroValue92
 t25:=Tryz.underlying237
 a25:=Tryz.isAgg237
 z25:=Tryz.sizeOf237
 v25:=Tryz.zeroValue237
 t39:=Tryz.underlying205
 a39:=Tryz.isAgg205
 z39:=Tryz.sizeOf205
 v39:=Tryz.zeroValue205
 t45:=Tryz.underlying277
 a45:=Tryz.isAgg277
 z45:=Tryz.sizeOf277
 v45:=Tryz.zeroValue277
 t46:=Tryz.underlying278
 a46:=Tryz.isAgg278
 z46:=Tryz.sizeOf278
 v46:=Tryz.zeroValue278
 t50:=Tryz.underlying238
 a50:=Tryz.isAgg238
 z50:=Tryz.sizeOf238
 v50:=Tryz.zeroValue238
 t53:=Tryz.underlying285
 a53:=Tryz.isAgg285
 z53:=Tryz.sizeOf285
 v53:=Tryz.zeroValue285
 t55:=Tryz.underlying143
 a55:=Tryz.isAgg143
 z55:=Tryz.sizeOf143
 v55:=Tryz.zeroValue143
 t66:=Tryz.underlying327
 a66:=Tryz.isAgg327
 z66:=Tryz.sizeOf327
 v66:=Tryz.zeroValue327
 t70:=Tryz.underlying331
 a70:=Tryz.isAgg331
 z70:=Tryz.sizeOf331
 v70:=Tryz.zeroValue331
 t76:=Tryz.underlying364
 a76:=Tryz.isAgg364
 z76:=Tryz.sizeOf364
 v76:=Tryz.zeroValue364
 t77:=Tryz.underlying66
 a77:=Tryz.isAgg66
 z77:=Tryz.sizeOf66
 v77:=Tryz.zeroValue66
end Go.Proofs.YtlnclppkepgdmaaGreat
