/- The laying of slices.SortFunc. Printed by a program. -/
import Derived.Test.YthljmpcakagceaaGreatHVm4
import Derived.Test.YthljmpcakagceaaGreatChecked
open Option renaming some->v6
set_option maxRecDepth 100000
namespace Go.Proofs.YthljmpcakagceaaGreat
open Go.Vm Go.Shelf
def ago:Go.Shelf.Ren:=⟨fun|6=>140|14=>198|15=>188|20=>244|21=>245|22=>246|23=>247|24=>248|25=>249|26=>250|27=>251|28=>239|29=>240|46=>283|47=>278|48=>279|49=>284|50=>285|57=>303|n=>n,fun|22=>83|24=>89|25=>214|39=>266|45=>314|46=>315|50=>164|53=>321|55=>109|66=>357|70=>361|76=>382|77=>383|n=>n,fun n=>n⟩
theorem agp:SlLaysF0.n6 Tryz.prog ago where
 mixed:=by kernel_rfl
 f6:=⟨ "slices.SortFunc[[]peloton/api.Meeting,peloton/api.Meeting]",by kernel_rfl,Tryz.func140.trans (congrArg v6 (by kernel_rfl))⟩
 f14:=⟨ "slices.pdqsortCmpFunc[peloton/api.Meeting]",by kernel_rfl,Tryz.func198.trans (congrArg v6 (by kernel_rfl))⟩
 f15:=Tryz.func188.trans (congrArg v6 (by kernel_rfl))
 f20:=⟨ "slices.insertionSortCmpFunc[peloton/api.Meeting]",by kernel_rfl,Tryz.func244.trans (congrArg v6 (by kernel_rfl))⟩
 f21:=⟨ "slices.heapSortCmpFunc[peloton/api.Meeting]",by kernel_rfl,Tryz.func245.trans (congrArg v6 (by kernel_rfl))⟩
 f22:=⟨ "slices.breakPatternsCmpFunc[peloton/api.Meeting]",by kernel_rfl,Tryz.func246.trans (congrArg v6 (by kernel_rfl))⟩
 f23:=⟨ "slices.choosePivotCmpFunc[peloton/api.Meeting]",by kernel_rfl,Tryz.func247.trans (congrArg v6 (by kernel_rfl))⟩
 f24:=⟨ "slices.reverseRangeCmpFunc[peloton/api.Meeting]",by kernel_rfl,Tryz.func248.trans (congrArg v6 (by kernel_rfl))⟩
 f25:=⟨ "slices.partialInsertionSortCmpFunc[peloton/api.Meeting]",by kernel_rfl,Tryz.func249.trans (congrArg v6 (by kernel_rfl))⟩
 f26:=⟨ "slices.partitionEqualCmpFunc[peloton/api.Meeting]",by kernel_rfl,Tryz.func250.trans (congrArg v6 (by kernel_rfl))⟩
 f27:=⟨ "slices.partitionCmpFunc[peloton/api.Meeting]",by kernel_rfl,Tryz.func251.trans (congrArg v6 (by kernel_rfl))⟩
 f28:=Tryz.func239.trans (congrArg v6 (by kernel_rfl))
 f29:=Tryz.func240.trans (congrArg v6 (by kernel_rfl))
 f46:=⟨ "slices.siftDownCmpFunc[peloton/api.Meeting]",by kernel_rfl,Tryz.func283.trans (congrArg v6 (by kernel_rfl))⟩
 f47:=Tryz.func278.trans (congrArg v6 (by kernel_rfl))
 f48:=Tryz.func279.trans (congrArg v6 (by kernel_rfl))
 f49:=⟨ "slices.medianAdjacentCmpFunc[peloton/api.Meeting]",by kernel_rfl,Tryz.func284.trans (congrArg v6 (by kernel_rfl))⟩
 f50:=⟨ "slices.medianCmpFunc[peloton/api.Meeting]",by kernel_rfl,Tryz.func285.trans (congrArg v6 (by kernel_rfl))⟩
 f57:=⟨ "slices.order2CmpFunc[peloton/api.Meeting]",by kernel_rfl,Tryz.func303.trans (congrArg v6 (by kernel_rfl))⟩
 t0:=Tryz.underlying0
 a0:=Tryz.isAgg0
 z0:=Tryz.sizeOf0
 v0:=Tryz.zeroValue0
 t3:=Tryz.underlying3
 a3:=Tryz.isAgg3
 z3:=Tryz.sizeOf3
 v3:=Tryz.zeroValue3
 t4:=Tryz.underlying4
 a4:=Tryz.isAgg4
 z4:=Tryz.sizeOf4
 v4:=Tryz.zeroValue4
 t5:=Tryz.underlying5
 a5:=Tryz.isAgg5
 z5:=Tryz.sizeOf5
 v5:=Tryz.zeroValue5
 t9:=Tryz.underlying9
 a9:=Tryz.isAgg9
 z9:=Tryz.sizeOf9
 v9:=Tryz.zeroValue9
 t22:=Tryz.underlying83
 a22:=Tryz.isAgg83
 z22:=Tryz.sizeOf83
 v22:=Tryz.zeroValue83
 t25:=Tryz.underlying214
 a25:=Tryz.isAgg214
 z25:=Tryz.sizeOf214
 v25:=Tryz.zeroValue214
 t39:=Tryz.underlying266
 a39:=Tryz.isAgg266
 z39:=Tryz.sizeOf266
 v39:=Tryz.zeroValue266
 t45:=Tryz.underlying314
 a45:=Tryz.isAgg314
 z45:=Tryz.sizeOf314
 v45:=Tryz.zeroValue314
 t46:=Tryz.underlying315
 a46:=Tryz.isAgg315
 z46:=Tryz.sizeOf315
 v46:=Tryz.zeroValue315
 t50:=Tryz.underlying164
 a50:=Tryz.isAgg164
 z50:=Tryz.sizeOf164
 v50:=Tryz.zeroValue164
 t53:=Tryz.underlying321
 a53:=Tryz.isAgg321
 z53:=Tryz.sizeOf321
 v53:=Tryz.zeroValue321
 t55:=Tryz.underlying109
 a55:=Tryz.isAgg109
 z55:=Tryz.sizeOf109
 v55:=Tryz.zeroValue109
 t66:=Tryz.underlying357
 a66:=Tryz.isAgg357
 z66:=Tryz.sizeOf357
 v66:=Tryz.zeroValue357
 t70:=Tryz.underlying361
 a70:=Tryz.isAgg361
 z70:=Tryz.sizeOf361
 v70:=Tryz.zeroValue361
 t76:=Tryz.underlying382
 a76:=Tryz.isAgg382
 z76:=Tryz.sizeOf382
 v76:=Tryz.zeroValue382
 t77:=Tryz.underlying383
 a77:=Tryz.isAgg383
 z77:=Tryz.sizeOf383
 v77:=Tryz.zeroValue383
end Go.Proofs.YthljmpcakagceaaGreat
