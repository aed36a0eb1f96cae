/- The functions of the seat as the logical machine runs them, and the look at each of them. Printed by a program. -/
import Derived.Test.YtohmmcfniijjkaaMVmTab
import Derived.Test.YtohmmcfniijjkaaProg
set_option maxRecDepth 100000
namespace Go.Proofs.Ytohmmcfniijjkaa
open Go.Vm

/-- peloton/pelotonlaw23.StretchSizes -/
def x3 : XFunc := ⟨2,
 (.seq
 (.region none [
 ⟨some 4, .mov (.c (.bool false)), none⟩] [0, 1])
 (.seq
 (.seq
 (.region none [
 ⟨some 17, .mov (.t 1), none⟩,
 ⟨some 18, .len (.t 17), none⟩,
 ⟨some 19, .bin .gtr (.t 18) (.c (.int .i64 300)), none⟩,
 ⟨some 20, .mov (.t 19), none⟩,
 ⟨some 21, .mov (.t 1), (some (20, true))⟩,
 ⟨some 22, .len (.t 21), (some (20, true))⟩,
 ⟨some 23, .bin .leq (.t 22) (.c (.int .i64 1000)), (some (20, true))⟩,
 ⟨some 24, .pick (.t 20) (.t 23) (.c (.bool false)), none⟩,
 ⟨some 25, .mov (.t 24), none⟩,
 ⟨some 26, .mov (.t 1), (some (25, false))⟩,
 ⟨some 27, .len (.t 26), (some (25, false))⟩,
 ⟨some 28, .bin .gtr (.t 27) (.c (.int .i64 1100)), (some (25, false))⟩,
 ⟨some 29, .pick (.t 25) (.c (.bool true)) (.t 28), none⟩] [0, 1, 29])
 (.cond (.t 29)
 (.seq
 (.region none [
 ⟨some 4, .mov (.c (.bool true)), none⟩] [4])
 .ret)
 .skip))
 (.seq
 (.region none [
 ⟨some 31, .mov (.t 0), none⟩,
 ⟨some 32, .call .pur 5 [(.t 31)], none⟩,
 ⟨some 30, .mov (.t 32), none⟩,
 ⟨some 33, .ext 0 (.t 30), none⟩,
 ⟨some 34, .ext 1 (.t 30), none⟩,
 ⟨some 5, .mov (.t 33), none⟩,
 ⟨some 6, .mov (.t 34), none⟩] [0, 1, 5, 6])
 (.seq
 (.region none [
 ⟨some 36, .mov (.t 0), none⟩,
 ⟨some 37, .call .pur 6 [(.t 36)], none⟩,
 ⟨some 35, .mov (.t 37), none⟩,
 ⟨some 38, .ext 0 (.t 35), none⟩,
 ⟨some 39, .ext 1 (.t 35), none⟩,
 ⟨some 7, .mov (.t 38), none⟩,
 ⟨some 8, .mov (.t 39), none⟩] [1, 5, 6, 7, 8])
 (.seq
 (.region none [
 ⟨some 41, .mov (.t 1), none⟩,
 ⟨some 42, .call .pur 7 [(.t 41)], none⟩,
 ⟨some 40, .mov (.t 42), none⟩,
 ⟨some 43, .ext 0 (.t 40), none⟩,
 ⟨some 44, .ext 1 (.t 40), none⟩,
 ⟨some 9, .mov (.t 43), none⟩,
 ⟨some 10, .mov (.t 44), none⟩] [1, 5, 6, 7, 8, 9, 10])
 (.seq
 (.region none [
 ⟨some 46, .mov (.t 1), none⟩,
 ⟨some 47, .call .pur 8 [(.t 46)], none⟩,
 ⟨some 45, .mov (.t 47), none⟩,
 ⟨some 48, .ext 0 (.t 45), none⟩,
 ⟨some 49, .ext 1 (.t 45), none⟩,
 ⟨some 11, .mov (.t 48), none⟩,
 ⟨some 12, .mov (.t 49), none⟩] [1, 5, 6, 7, 8, 9, 10, 11, 12])
 (.seq
 (.region none [
 ⟨some 51, .mov (.t 1), none⟩,
 ⟨some 52, .call .pur 9 [(.t 51)], none⟩,
 ⟨some 50, .mov (.t 52), none⟩,
 ⟨some 53, .ext 0 (.t 50), none⟩,
 ⟨some 54, .ext 1 (.t 50), none⟩,
 ⟨some 13, .mov (.t 53), none⟩,
 ⟨some 14, .mov (.t 54), none⟩] [1, 5, 6, 7, 8, 9, 10, 11, 12, 13, 14])
 (.seq
 (.region none [
 ⟨some 56, .mov (.t 1), none⟩,
 ⟨some 57, .call .pur 10 [(.t 56)], none⟩,
 ⟨some 55, .mov (.t 57), none⟩,
 ⟨some 58, .ext 0 (.t 55), none⟩,
 ⟨some 59, .ext 1 (.t 55), none⟩,
 ⟨some 15, .mov (.t 58), none⟩,
 ⟨some 16, .mov (.t 59), none⟩] [5, 6, 7, 8, 9, 10, 11, 12, 13, 14, 15, 16])
 (.seq
 (.region none [
 ⟨some 60, .mov (.t 5), none⟩,
 ⟨some 61, .mov (.t 7), none⟩,
 ⟨some 62, .bin .eql (.t 60) (.t 61), none⟩,
 ⟨some 63, .mov (.t 62), none⟩,
 ⟨some 64, .mov (.t 6), (some (63, true))⟩,
 ⟨some 65, .mov (.t 8), (some (63, true))⟩,
 ⟨some 66, .bin .eql (.t 64) (.t 65), (some (63, true))⟩,
 ⟨some 67, .pick (.t 63) (.t 66) (.c (.bool false)), none⟩,
 ⟨some 68, .mov (.t 67), none⟩,
 ⟨some 69, .mov (.t 9), (some (68, true))⟩,
 ⟨some 70, .mov (.t 11), (some (68, true))⟩,
 ⟨some 71, .call .pur 11 [(.t 69), (.t 70)], (some (68, true))⟩,
 ⟨some 72, .pick (.t 68) (.t 71) (.c (.bool false)), none⟩,
 ⟨some 73, .mov (.t 72), none⟩,
 ⟨some 74, .mov (.t 10), (some (73, true))⟩,
 ⟨some 75, .mov (.t 12), (some (73, true))⟩,
 ⟨some 76, .bin .eql (.t 74) (.t 75), (some (73, true))⟩,
 ⟨some 77, .pick (.t 73) (.t 76) (.c (.bool false)), none⟩,
 ⟨some 78, .mov (.t 77), none⟩,
 ⟨some 79, .mov (.t 13), (some (78, true))⟩,
 ⟨some 80, .mov (.t 15), (some (78, true))⟩,
 ⟨some 81, .bin .eql (.t 79) (.t 80), (some (78, true))⟩,
 ⟨some 82, .pick (.t 78) (.t 81) (.c (.bool false)), none⟩,
 ⟨some 83, .mov (.t 82), none⟩,
 ⟨some 84, .mov (.t 14), (some (83, true))⟩,
 ⟨some 85, .mov (.t 16), (some (83, true))⟩,
 ⟨some 86, .bin .eql (.t 84) (.t 85), (some (83, true))⟩,
 ⟨some 87, .pick (.t 83) (.t 86) (.c (.bool false)), none⟩,
 ⟨some 4, .mov (.t 87), none⟩] [4])
 .ret))))))))),
 [.tmp 4]⟩
 
/-- peloton/pelotonlaw23.StretchMoves -/
def x4 : XFunc := ⟨1,
 (.seq
 (.region none [
 ⟨some 2, .mov (.c (.bool false)), none⟩] [0])
 (.seq
 (.region none [
 ⟨some 12, .call .pur 12 [], none⟩,
 ⟨some 3, .mov (.t 12), none⟩] [0, 3])
 (.seq
 (.seq
 (.region none [
 ⟨some 13, .mov (.t 0), none⟩,
 ⟨some 14, .len (.t 13), none⟩,
 ⟨some 15, .bin .gtr (.t 14) (.c (.int .i64 300)), none⟩,
 ⟨some 16, .mov (.t 15), none⟩,
 ⟨some 17, .mov (.t 3), (some (16, false))⟩,
 ⟨some 18, .un .not (.t 17), (some (16, false))⟩,
 ⟨some 19, .pick (.t 16) (.c (.bool true)) (.t 18), none⟩] [0, 3, 19])
 (.cond (.t 19)
 (.seq
 (.region none [
 ⟨some 20, .mov (.t 3), none⟩,
 ⟨some 2, .mov (.t 20), none⟩] [2])
 .ret)
 .skip))
 (.seq
 (.region none [
 ⟨some 22, .mov (.t 0), none⟩,
 ⟨some 23, .call .pur 7 [(.t 22)], none⟩,
 ⟨some 21, .mov (.t 23), none⟩,
 ⟨some 24, .ext 0 (.t 21), none⟩,
 ⟨some 25, .ext 1 (.t 21), none⟩,
 ⟨some 4, .mov (.t 24), none⟩,
 ⟨some 5, .mov (.t 25), none⟩] [0, 3, 4, 5])
 (.seq
 (.region none [
 ⟨some 27, .mov (.t 0), none⟩,
 ⟨some 28, .call .pur 9 [(.t 27)], none⟩,
 ⟨some 26, .mov (.t 28), none⟩,
 ⟨some 29, .ext 0 (.t 26), none⟩,
 ⟨some 30, .ext 1 (.t 26), none⟩,
 ⟨some 6, .mov (.t 29), none⟩,
 ⟨some 7, .mov (.t 30), none⟩] [0, 3, 4, 5, 6, 7])
 (.seq
 (.seq
 (.region none [
 ⟨some 31, .mov (.t 5), none⟩,
 ⟨some 32, .bin .neq (.t 31) (.c (.int .i64 0)), none⟩,
 ⟨some 33, .mov (.t 32), none⟩,
 ⟨some 34, .mov (.t 7), (some (33, false))⟩,
 ⟨some 35, .bin .neq (.t 34) (.c (.int .i64 0)), (some (33, false))⟩,
 ⟨some 36, .pick (.t 33) (.c (.bool true)) (.t 35), none⟩,
 ⟨some 37, .mov (.t 36), none⟩,
 ⟨some 38, .mov (.t 4), (some (37, false))⟩,
 ⟨some 39, .len (.t 38), (some (37, false))⟩,
 ⟨some 40, .mov (.t 0), (some (37, false))⟩,
 ⟨some 41, .len (.t 40), (some (37, false))⟩,
 ⟨some 42, .bin .neq (.t 39) (.t 41), (some (37, false))⟩,
 ⟨some 43, .pick (.t 37) (.c (.bool true)) (.t 42), none⟩,
 ⟨some 44, .mov (.t 43), none⟩,
 ⟨some 45, .mov (.t 6), (some (44, false))⟩,
 ⟨some 46, .bin .lss (.t 45) (.c (.int .i64 0)), (some (44, false))⟩,
 ⟨some 47, .pick (.t 44) (.c (.bool true)) (.t 46), none⟩,
 ⟨some 48, .mov (.t 47), none⟩,
 ⟨some 49, .mov (.t 6), (some (48, false))⟩,
 ⟨some 50, .mov (.t 0), (some (48, false))⟩,
 ⟨some 51, .len (.t 50), (some (48, false))⟩,
 ⟨some 52, .bin .mul (.c (.int .i64 2)) (.t 51), (some (48, false))⟩,
 ⟨some 53, .bin .gtr (.t 49) (.t 52), (some (48, false))⟩,
 ⟨some 54, .pick (.t 48) (.c (.bool true)) (.t 53), none⟩] [0, 3, 4, 54])
 (.cond (.t 54)
 (.seq
 (.region none [
 ⟨some 2, .mov (.c (.bool false)), none⟩] [2])
 .ret)
 .skip))
 (.seq
 (.region none [
 ⟨some 8, .mov (.c (.int .i64 0)), none⟩] [0, 3, 4, 8])
 (.seq
 (.seq
 (.region none [
 ⟨some 9, .mov (.c (.int .i64 0)), none⟩] [0, 3, 4, 8, 9])
 (.block 0
 (.loop [(0, none), (3, none), (4, none), (8, none), (9, none)]
 (.seq
 (.seq
 (.region none [
 ⟨some 55, .mov (.t 9), none⟩,
 ⟨some 56, .mov (.t 0), none⟩,
 ⟨some 57, .len (.t 56), none⟩,
 ⟨some 58, .bin .lss (.t 55) (.t 57), none⟩] [0, 3, 4, 8, 9, 58])
 (.cond (.t 58)
 .skip
 (.exit 0)))
 (.seq
 (.block 1
 (.seq
 (.seq
 (.region none [
 ⟨some 61, .mov (.t 0), none⟩,
 ⟨some 62, .mov (.t 9), none⟩,
 ⟨some 63, .iadr 1 (.t 61) (.t 62), none⟩,
 ⟨some 64, .load none (.t 63), none⟩] [0, 3, 4, 8, 9, 64])
 (.cond (.t 64)
 (.region none [
 ⟨some 65, .mov (.t 8), none⟩,
 ⟨some 66, .bin .add (.t 65) (.c (.int .i64 1)), none⟩,
 ⟨some 67, .mm false (.c (.int .i64 64)) [(.t 66)], none⟩,
 ⟨some 8, .mov (.t 67), none⟩] [0, 3, 4, 8, 9])
 (.region none [
 ⟨some 68, .mov (.t 8), none⟩,
 ⟨some 69, .bin .sub (.t 68) (.c (.int .i64 1)), none⟩,
 ⟨some 70, .mm true (.c (.int .i64 0)) [(.t 69)], none⟩,
 ⟨some 8, .mov (.t 70), none⟩] [0, 3, 4, 8, 9])))
 (.seq
 (.region none [
 ⟨some 72, .mov (.t 8), none⟩,
 ⟨some 73, .call .pur 5 [(.t 72)], none⟩,
 ⟨some 71, .mov (.t 73), none⟩,
 ⟨some 74, .ext 0 (.t 71), none⟩,
 ⟨some 75, .ext 1 (.t 71), none⟩,
 ⟨some 10, .mov (.t 74), none⟩,
 ⟨some 11, .mov (.t 75), none⟩] [0, 3, 4, 8, 9, 10, 11])
 (.seq
 (.region none [
 ⟨some 76, .mov (.t 4), none⟩,
 ⟨some 77, .mov (.t 9), none⟩,
 ⟨some 78, .iadr 1 (.t 76) (.t 77), none⟩,
 ⟨some 79, .load none (.t 78), none⟩,
 ⟨some 80, .mov (.t 8), none⟩,
 ⟨some 81, .bin .lss (.t 79) (.t 80), none⟩,
 ⟨some 82, .mov (.t 81), none⟩,
 ⟨some 83, .mov (.t 4), (some (82, false))⟩,
 ⟨some 84, .mov (.t 9), (some (82, false))⟩,
 ⟨some 85, .iadr 1 (.t 83) (.t 84), (some (82, false))⟩,
 ⟨some 86, .load none (.t 85), (some (82, false))⟩,
 ⟨some 87, .bin .gtr (.t 86) (.c (.int .i64 1)), (some (82, false))⟩,
 ⟨some 88, .mov (.t 87), (some (82, false))⟩,
 ⟨some 89, .mov (.t 4), (some (88, true))⟩,
 ⟨some 90, .mov (.t 9), (some (88, true))⟩,
 ⟨some 91, .iadr 1 (.t 89) (.t 90), (some (88, true))⟩,
 ⟨some 92, .load none (.t 91), (some (88, true))⟩,
 ⟨some 93, .mov (.t 8), (some (88, true))⟩,
 ⟨some 94, .bin .mul (.c (.int .i64 4)) (.t 93), (some (88, true))⟩,
 ⟨some 95, .bin .geq (.t 92) (.t 94), (some (88, true))⟩,
 ⟨some 96, .pick (.t 88) (.t 95) (.c (.bool false)), (some (82, false))⟩,
 ⟨some 97, .pick (.t 82) (.c (.bool true)) (.t 96), none⟩,
 ⟨some 98, .mov (.t 97), none⟩,
 ⟨some 99, .mov (.t 11), (some (98, false))⟩,
 ⟨some 100, .bin .neq (.t 99) (.c (.int .i64 0)), (some (98, false))⟩,
 ⟨some 101, .pick (.t 98) (.c (.bool true)) (.t 100), none⟩,
 ⟨some 102, .mov (.t 101), none⟩,
 ⟨some 103, .mov (.t 4), (some (102, false))⟩,
 ⟨some 104, .mov (.t 9), (some (102, false))⟩,
 ⟨some 105, .iadr 1 (.t 103) (.t 104), (some (102, false))⟩,
 ⟨some 106, .load none (.t 105), (some (102, false))⟩,
 ⟨some 107, .mov (.t 10), (some (102, false))⟩,
 ⟨some 108, .bin .lss (.t 106) (.t 107), (some (102, false))⟩,
 ⟨some 109, .pick (.t 102) (.c (.bool true)) (.t 108), none⟩] [0, 3, 4, 8, 9, 109])
 (.cond (.t 109)
 (.seq
 (.region none [
 ⟨some 2, .mov (.c (.bool false)), none⟩] [2])
 .ret)
 .skip)))))
 (.region none [
 ⟨some 59, .mov (.t 9), none⟩,
 ⟨some 60, .bin .add (.t 59) (.c (.int .i64 1)), none⟩,
 ⟨some 9, .mov (.t 60), none⟩] [0, 3, 4, 8, 9]))))))
 (.seq
 (.region none [
 ⟨some 110, .mov (.t 3), none⟩,
 ⟨some 2, .mov (.t 110), none⟩] [2])
 .ret))))))))),
 [.tmp 2]⟩
 
/-- peloton/stretch.Size -/
def x5 : XFunc := ⟨1,
 (.seq
 (.region none [
 ⟨some 2, .mov (.c (.int .i64 0)), none⟩,
 ⟨some 3, .mov (.c (.int .i64 0)), none⟩] [0])
 (.seq
 (.seq
 (.region none [
 ⟨some 5, .mov (.t 0), none⟩,
 ⟨some 6, .bin .lss (.t 5) (.c (.int .i64 0)), none⟩,
 ⟨some 7, .mov (.t 6), none⟩,
 ⟨some 8, .mov (.t 0), (some (7, false))⟩,
 ⟨some 9, .bin .gtr (.t 8) (.c (.int .i64 64)), (some (7, false))⟩,
 ⟨some 10, .pick (.t 7) (.c (.bool true)) (.t 9), none⟩] [0, 10])
 (.cond (.t 10)
 (.seq
 (.region none [
 ⟨some 2, .mov (.c (.int .i64 0)), none⟩,
 ⟨some 3, .mov (.c (.int .i64 2)), none⟩] [2, 3])
 .ret)
 .skip))
 (.seq
 (.region none [
 ⟨some 4, .mov (.c (.int .i64 1)), none⟩] [0, 4])
 (.seq
 (.block 0
 (.loop [(0, none), (4, none)]
 (.seq
 (.seq
 (.region none [
 ⟨some 11, .mov (.t 4), none⟩,
 ⟨some 12, .mov (.t 0), none⟩,
 ⟨some 13, .bin .lss (.t 11) (.t 12), none⟩] [0, 4, 13])
 (.cond (.t 13)
 .skip
 (.exit 0)))
 (.block 1
 (.region none [
 ⟨some 14, .mov (.t 4), none⟩,
 ⟨some 15, .bin .mul (.t 14) (.c (.int .i64 2)), none⟩,
 ⟨some 4, .mov (.t 15), none⟩] [0, 4])))))
 (.seq
 (.region none [
 ⟨some 16, .mov (.t 4), none⟩,
 ⟨some 2, .mov (.t 16), none⟩,
 ⟨some 3, .mov (.c (.int .i64 0)), none⟩] [2, 3])
 .ret))))),
 [.tmp 2, .tmp 3]⟩
 
/-- peloton/pelotonref23.Size -/
def x6 : XFunc := ⟨1,
 (.seq
 (.region none [
 ⟨some 2, .mov (.c (.int .i64 0)), none⟩,
 ⟨some 3, .mov (.c (.int .i64 0)), none⟩] [0])
 (.seq
 (.seq
 (.region none [
 ⟨some 5, .mov (.t 0), none⟩,
 ⟨some 6, .bin .lss (.t 5) (.c (.int .i64 0)), none⟩,
 ⟨some 7, .mov (.t 6), none⟩,
 ⟨some 8, .mov (.t 0), (some (7, false))⟩,
 ⟨some 9, .bin .gtr (.t 8) (.c (.int .i64 64)), (some (7, false))⟩,
 ⟨some 10, .pick (.t 7) (.c (.bool true)) (.t 9), none⟩] [0, 10])
 (.cond (.t 10)
 (.seq
 (.region none [
 ⟨some 2, .mov (.c (.int .i64 0)), none⟩,
 ⟨some 3, .mov (.c (.int .i64 2)), none⟩] [2, 3])
 .ret)
 .skip))
 (.seq
 (.seq
 (.region none [
 ⟨some 4, .mov (.c (.int .i64 1)), none⟩] [0, 4])
 (.block 0
 (.loop [(0, none), (4, none)]
 (.seq
 (.seq
 (.region none [
 ⟨some 11, .mov (.t 4), none⟩,
 ⟨some 12, .mov (.t 0), none⟩,
 ⟨some 13, .bin .lss (.t 11) (.t 12), none⟩] [0, 4, 13])
 (.cond (.t 13)
 .skip
 (.exit 0)))
 (.seq
 (.block 1
 (.seq
 (.region none [
 ⟨some 16, .mov (.t 4), none⟩,
 ⟨some 17, .bin .mul (.c (.int .i64 2)) (.t 16), none⟩,
 ⟨some 18, .mov (.t 0), none⟩,
 ⟨some 19, .bin .geq (.t 17) (.t 18), none⟩] [0, 4, 19])
 (.cond (.t 19)
 (.seq
 (.region none [
 ⟨some 20, .mov (.t 4), none⟩,
 ⟨some 21, .bin .mul (.c (.int .i64 2)) (.t 20), none⟩,
 ⟨some 2, .mov (.t 21), none⟩,
 ⟨some 3, .mov (.c (.int .i64 0)), none⟩] [2, 3])
 .ret)
 .skip)))
 (.region none [
 ⟨some 14, .mov (.t 4), none⟩,
 ⟨some 15, .bin .mul (.t 14) (.c (.int .i64 2)), none⟩,
 ⟨some 4, .mov (.t 15), none⟩] [0, 4]))))))
 (.seq
 (.region none [
 ⟨some 2, .mov (.c (.int .i64 1)), none⟩,
 ⟨some 3, .mov (.c (.int .i64 0)), none⟩] [2, 3])
 .ret)))),
 [.tmp 2, .tmp 3]⟩
 
/-- peloton/stretch.Sizes -/
def x7 : XFunc := ⟨1,
 (.seq
 (.region none [
 ⟨some 2, .mov (.c (.sl 1 true [])), none⟩,
 ⟨some 3, .mov (.c (.int .i64 0)), none⟩] [0])
 (.seq
 (.seq
 (.region none [
 ⟨some 5, .mov (.t 0), none⟩,
 ⟨some 6, .len (.t 5), none⟩,
 ⟨some 7, .bin .gtr (.t 6) (.c (.int .i64 1000)), none⟩] [0, 7])
 (.cond (.t 7)
 (.seq
 (.region none [
 ⟨some 2, .mov (.c (.sl 1 true [])), none⟩,
 ⟨some 3, .mov (.c (.int .i64 4)), none⟩] [2, 3])
 .ret)
 .skip))
 (.seq
 (.region none [
 ⟨some 4, .alloc [.sl 1 true []], none⟩] [0, 4])
 (.seq
 (.region none [
 ⟨some 8, .mov (.t 0), none⟩,
 ⟨some 9, .mkf 14 [] [(.t 4)], none⟩,
 ⟨some 10, .call .shr 13 [(.t 8), (.t 9)], none⟩] [4])
 (.seq
 (.region none [
 ⟨some 11, .load none (.t 4), none⟩,
 ⟨some 2, .mov (.t 11), none⟩,
 ⟨some 3, .mov (.c (.int .i64 0)), none⟩] [2, 3])
 .ret))))),
 [.tmp 2, .tmp 3]⟩
 
/-- peloton/pelotonref23.Sizes -/
def x8 : XFunc := ⟨1,
 (.seq
 (.region none [
 ⟨some 2, .mov (.c (.sl 1 true [])), none⟩,
 ⟨some 3, .mov (.c (.int .i64 0)), none⟩] [0])
 (.seq
 (.seq
 (.region none [
 ⟨some 6, .mov (.t 0), none⟩,
 ⟨some 7, .len (.t 6), none⟩,
 ⟨some 8, .bin .gtr (.t 7) (.c (.int .i64 1000)), none⟩] [0, 8])
 (.cond (.t 8)
 (.seq
 (.region none [
 ⟨some 2, .mov (.c (.sl 1 true [])), none⟩,
 ⟨some 3, .mov (.c (.int .i64 4)), none⟩] [2, 3])
 .ret)
 .skip))
 (.seq
 (.region none [
 ⟨some 10, .mov (.t 0), none⟩,
 ⟨some 11, .call .pur 15 [(.t 10)], none⟩,
 ⟨some 9, .mov (.t 11), none⟩,
 ⟨some 12, .ext 0 (.t 9), none⟩,
 ⟨some 13, .ext 1 (.t 9), none⟩,
 ⟨some 4, .mov (.t 12), none⟩,
 ⟨some 5, .mov (.t 13), none⟩] [4])
 (.seq
 (.region none [
 ⟨some 14, .mov (.t 4), none⟩,
 ⟨some 2, .mov (.t 14), none⟩,
 ⟨some 3, .mov (.c (.int .i64 0)), none⟩] [2, 3])
 .ret)))),
 [.tmp 2, .tmp 3]⟩
 
/-- peloton/stretch.Moves -/
def x9 : XFunc := ⟨1,
 (.seq
 (.region none [
 ⟨some 2, .mov (.c (.int .i64 0)), none⟩,
 ⟨some 3, .mov (.c (.int .i64 0)), none⟩] [0])
 (.seq
 (.seq
 (.region none [
 ⟨some 5, .mov (.t 0), none⟩,
 ⟨some 6, .len (.t 5), none⟩,
 ⟨some 7, .bin .gtr (.t 6) (.c (.int .i64 1000)), none⟩] [0, 7])
 (.cond (.t 7)
 (.seq
 (.region none [
 ⟨some 2, .mov (.c (.int .i64 0)), none⟩,
 ⟨some 3, .mov (.c (.int .i64 4)), none⟩] [2, 3])
 .ret)
 .skip))
 (.seq
 (.region none [
 ⟨some 4, .alloc [.int .i64 0], none⟩,
 ⟨none, .store 1 (.t 4) (.c (.int .i64 0)), none⟩] [0, 4])
 (.seq
 (.region none [
 ⟨some 8, .mov (.t 0), none⟩,
 ⟨some 9, .mkf 16 [] [(.t 4)], none⟩,
 ⟨some 10, .call .shr 13 [(.t 8), (.t 9)], none⟩] [4])
 (.seq
 (.region none [
 ⟨some 11, .load none (.t 4), none⟩,
 ⟨some 2, .mov (.t 11), none⟩,
 ⟨some 3, .mov (.c (.int .i64 0)), none⟩] [2, 3])
 .ret))))),
 [.tmp 2, .tmp 3]⟩
 
/-- peloton/pelotonref23.Moves -/
def x10 : XFunc := ⟨1,
 (.seq
 (.region none [
 ⟨some 2, .mov (.c (.int .i64 0)), none⟩,
 ⟨some 3, .mov (.c (.int .i64 0)), none⟩] [0])
 (.seq
 (.seq
 (.region none [
 ⟨some 6, .mov (.t 0), none⟩,
 ⟨some 7, .len (.t 6), none⟩,
 ⟨some 8, .bin .gtr (.t 7) (.c (.int .i64 1000)), none⟩] [0, 8])
 (.cond (.t 8)
 (.seq
 (.region none [
 ⟨some 2, .mov (.c (.int .i64 0)), none⟩,
 ⟨some 3, .mov (.c (.int .i64 4)), none⟩] [2, 3])
 .ret)
 .skip))
 (.seq
 (.region none [
 ⟨some 10, .mov (.t 0), none⟩,
 ⟨some 11, .call .pur 15 [(.t 10)], none⟩,
 ⟨some 9, .mov (.t 11), none⟩,
 ⟨some 12, .ext 0 (.t 9), none⟩,
 ⟨some 13, .ext 1 (.t 9), none⟩,
 ⟨some 4, .mov (.t 12), none⟩,
 ⟨some 5, .mov (.t 13), none⟩] [5])
 (.seq
 (.region none [
 ⟨some 14, .mov (.t 5), none⟩,
 ⟨some 2, .mov (.t 14), none⟩,
 ⟨some 3, .mov (.c (.int .i64 0)), none⟩] [2, 3])
 .ret)))),
 [.tmp 2, .tmp 3]⟩
 
/-- peloton/pelotonref03.SameIDs -/
def x11 : XFunc := ⟨2,
 (.seq
 (.region none [
 ⟨some 4, .mov (.c (.bool false)), none⟩] [0, 1])
 (.seq
 (.seq
 (.region none [
 ⟨some 6, .mov (.t 0), none⟩,
 ⟨some 7, .len (.t 6), none⟩,
 ⟨some 8, .mov (.t 1), none⟩,
 ⟨some 9, .len (.t 8), none⟩,
 ⟨some 10, .bin .neq (.t 7) (.t 9), none⟩] [0, 1, 10])
 (.cond (.t 10)
 (.seq
 (.region none [
 ⟨some 4, .mov (.c (.bool false)), none⟩] [4])
 .ret)
 .skip))
 (.seq
 (.seq
 (.region none [
 ⟨some 5, .mov (.c (.int .i64 0)), none⟩] [0, 1, 5])
 (.block 0
 (.loop [(0, none), (1, none), (5, none)]
 (.seq
 (.seq
 (.region none [
 ⟨some 11, .mov (.t 5), none⟩,
 ⟨some 12, .mov (.t 0), none⟩,
 ⟨some 13, .len (.t 12), none⟩,
 ⟨some 14, .bin .lss (.t 11) (.t 13), none⟩] [0, 1, 5, 14])
 (.cond (.t 14)
 .skip
 (.exit 0)))
 (.seq
 (.block 1
 (.seq
 (.region (some [0, 0, 3, 7, 0, 0, 48, 112, 255]) [
 ⟨some 17, .mov (.t 0), none⟩,
 ⟨some 18, .mov (.t 5), none⟩,
 ⟨some 19, .iadr 1 (.t 17) (.t 18), none⟩,
 ⟨some 20, .load none (.t 19), none⟩,
 ⟨some 21, .mov (.t 1), none⟩,
 ⟨some 22, .mov (.t 5), none⟩,
 ⟨some 23, .iadr 1 (.t 21) (.t 22), none⟩,
 ⟨some 24, .load none (.t 23), none⟩,
 ⟨some 25, .bin .neq (.t 20) (.t 24), none⟩] [0, 1, 5, 25])
 (.cond (.t 25)
 (.seq
 (.region none [
 ⟨some 4, .mov (.c (.bool false)), none⟩] [4])
 .ret)
 .skip)))
 (.region none [
 ⟨some 15, .mov (.t 5), none⟩,
 ⟨some 16, .bin .add (.t 15) (.c (.int .i64 1)), none⟩,
 ⟨some 5, .mov (.t 16), none⟩] [0, 1, 5]))))))
 (.seq
 (.region none [
 ⟨some 4, .mov (.c (.bool true)), none⟩] [4])
 .ret)))),
 [.tmp 4]⟩
 
/-- peloton/pelotonlaw23.alive -/
def x12 : XFunc := ⟨0,
 (.seq
 (.region none [
 ⟨some 0, .mov (.c (.bool false)), none⟩] [])
 (.seq
 (.region none [
 ⟨some 9, .call .pur 5 [(.c (.int .i64 5))], none⟩,
 ⟨some 8, .mov (.t 9), none⟩,
 ⟨some 10, .ext 0 (.t 8), none⟩,
 ⟨some 11, .ext 1 (.t 8), none⟩,
 ⟨some 1, .mov (.t 10), none⟩,
 ⟨some 2, .mov (.t 11), none⟩] [1, 2])
 (.seq
 (.region none [
 ⟨some 12, .mkrow 1 6 [.bool false] [(0, (.c (.bool true))), (1, (.c (.bool true))), (2, (.c (.bool true))), (3, (.c (.bool false))), (4, (.c (.bool false))), (5, (.c (.bool false)))], none⟩,
 ⟨some 3, .mov (.t 12), none⟩] [1, 2, 3])
 (.seq
 (.region none [
 ⟨some 14, .mov (.t 3), none⟩,
 ⟨some 15, .call .pur 7 [(.t 14)], none⟩,
 ⟨some 13, .mov (.t 15), none⟩,
 ⟨some 16, .ext 0 (.t 13), none⟩,
 ⟨some 17, .ext 1 (.t 13), none⟩,
 ⟨some 4, .mov (.t 16), none⟩,
 ⟨some 5, .mov (.t 17), none⟩] [1, 2, 3, 4, 5])
 (.seq
 (.region none [
 ⟨some 19, .mov (.t 3), none⟩,
 ⟨some 20, .call .pur 9 [(.t 19)], none⟩,
 ⟨some 18, .mov (.t 20), none⟩,
 ⟨some 21, .ext 0 (.t 18), none⟩,
 ⟨some 22, .ext 1 (.t 18), none⟩,
 ⟨some 6, .mov (.t 21), none⟩,
 ⟨some 7, .mov (.t 22), none⟩] [1, 2, 4, 5, 6, 7])
 (.seq
 (.region none [
 ⟨some 23, .mov (.t 2), none⟩,
 ⟨some 24, .bin .eql (.t 23) (.c (.int .i64 0)), none⟩,
 ⟨some 25, .mov (.t 24), none⟩,
 ⟨some 26, .mov (.t 1), (some (25, true))⟩,
 ⟨some 27, .bin .eql (.t 26) (.c (.int .i64 8)), (some (25, true))⟩,
 ⟨some 28, .pick (.t 25) (.t 27) (.c (.bool false)), none⟩,
 ⟨some 29, .mov (.t 28), none⟩,
 ⟨some 30, .mov (.t 5), (some (29, true))⟩,
 ⟨some 31, .bin .eql (.t 30) (.c (.int .i64 0)), (some (29, true))⟩,
 ⟨some 32, .pick (.t 29) (.t 31) (.c (.bool false)), none⟩,
 ⟨some 33, .mov (.t 32), none⟩,
 ⟨some 34, .mov (.t 4), (some (33, true))⟩,
 ⟨some 35, .mkrow 1 6 [.int .i64 0] [(0, (.c (.int .i64 1))), (1, (.c (.int .i64 2))), (2, (.c (.int .i64 4))), (3, (.c (.int .i64 4))), (4, (.c (.int .i64 2))), (5, (.c (.int .i64 1)))], (some (33, true))⟩,
 ⟨some 36, .call .pur 11 [(.t 34), (.t 35)], (some (33, true))⟩,
 ⟨some 37, .pick (.t 33) (.t 36) (.c (.bool false)), none⟩,
 ⟨some 38, .mov (.t 37), none⟩,
 ⟨some 39, .mov (.t 7), (some (38, true))⟩,
 ⟨some 40, .bin .eql (.t 39) (.c (.int .i64 0)), (some (38, true))⟩,
 ⟨some 41, .pick (.t 38) (.t 40) (.c (.bool false)), none⟩,
 ⟨some 42, .mov (.t 41), none⟩,
 ⟨some 43, .mov (.t 6), (some (42, true))⟩,
 ⟨some 44, .bin .eql (.t 43) (.c (.int .i64 4)), (some (42, true))⟩,
 ⟨some 45, .pick (.t 42) (.t 44) (.c (.bool false)), none⟩,
 ⟨some 0, .mov (.t 45), none⟩] [0])
 .ret)))))),
 [.tmp 0]⟩
 
/-- peloton/stretch.through -/
def x13 : XFunc := ⟨2,
 (.seq
 (.region none [
 ⟨some 4, .mov (.c (.int .i64 1)), none⟩,
 ⟨some 5, .mov (.c (.int .i64 0)), none⟩] [0, 1, 4, 5])
 (.seq
 (.region none [
 ⟨some 9, .mov (.t 0), none⟩,
 ⟨some 10, .len (.t 9), none⟩,
 ⟨some 11, .mov (.c (.int .i64 0)), none⟩] [1, 4, 5, 9, 10, 11])
 (.block 0
 (.loop [(1, none), (4, none), (5, none), (9, none), (10, none), (11, none)]
 (.seq
 (.region none [
 ⟨some 12, .bin .lss (.t 11) (.t 10), none⟩] [1, 4, 5, 9, 10, 11, 12])
 (.seq
 (.cond (.t 12)
 .skip
 (.exit 0))
 (.seq
 (.block 1
 (.seq
 (.region none [
 ⟨some 13, .iadr 1 (.t 9) (.t 11), none⟩,
 ⟨some 14, .load none (.t 13), none⟩,
 ⟨some 7, .mov (.t 14), none⟩] [1, 4, 5, 7, 9, 10, 11])
 (.seq
 (.region none [
 ⟨some 8, .mov (.c (.int .i64 0)), none⟩] [1, 4, 5, 7, 8, 9, 10, 11])
 (.seq
 (.block 2
 (.seq
 (.region none [
 ⟨some 16, .mov (.t 7), none⟩,
 ⟨some 17, .mov (.t 16), none⟩,
 ⟨some 18, .mov (.t 5), (some (17, true))⟩,
 ⟨some 19, .bin .lss (.t 18) (.c (.int .i64 64)), (some (17, true))⟩,
 ⟨some 20, .pick (.t 17) (.t 19) (.c (.bool false)), none⟩,
 ⟨some 15, .mov (.t 20), none⟩] [1, 4, 5, 7, 8, 9, 10, 11, 15])
 (.cond (.t 15)
 (.seq
 (.seq
 (.region none [
 ⟨some 21, .mov (.t 5), none⟩,
 ⟨some 22, .mov (.t 4), none⟩,
 ⟨some 23, .bin .eql (.t 21) (.t 22), none⟩] [1, 4, 5, 8, 9, 10, 11, 23])
 (.cond (.t 23)
 (.region none [
 ⟨some 24, .mov (.t 4), none⟩,
 ⟨some 25, .bin .mul (.c (.int .i64 2)) (.t 24), none⟩,
 ⟨some 26, .mov (.t 5), none⟩,
 ⟨some 4, .mov (.t 25), none⟩,
 ⟨some 8, .mov (.t 26), none⟩] [1, 4, 5, 8, 9, 10, 11])
 .skip))
 (.region none [
 ⟨some 27, .mov (.t 5), none⟩,
 ⟨some 28, .bin .add (.t 27) (.c (.int .i64 1)), none⟩,
 ⟨some 5, .mov (.t 28), none⟩] [1, 4, 5, 8, 9, 10, 11]))
 (.seq
 (.region none [
 ⟨some 30, .mov (.t 7), none⟩,
 ⟨some 31, .un .not (.t 30), none⟩,
 ⟨some 32, .mov (.t 31), none⟩,
 ⟨some 33, .mov (.t 5), (some (32, true))⟩,
 ⟨some 34, .bin .gtr (.t 33) (.c (.int .i64 0)), (some (32, true))⟩,
 ⟨some 35, .pick (.t 32) (.t 34) (.c (.bool false)), none⟩,
 ⟨some 29, .mov (.t 35), none⟩] [1, 4, 5, 8, 9, 10, 11, 29])
 (.cond (.t 29)
 (.seq
 (.region none [
 ⟨some 36, .mov (.t 5), none⟩,
 ⟨some 37, .bin .sub (.t 36) (.c (.int .i64 1)), none⟩,
 ⟨some 5, .mov (.t 37), none⟩] [1, 4, 5, 8, 9, 10, 11])
 (.seq
 (.region none [
 ⟨some 38, .mov (.t 4), none⟩,
 ⟨some 39, .bin .gtr (.t 38) (.c (.int .i64 1)), none⟩,
 ⟨some 40, .mov (.t 39), none⟩,
 ⟨some 41, .mov (.t 5), (some (40, true))⟩,
 ⟨some 42, .bin .mul (.c (.int .i64 4)) (.t 41), (some (40, true))⟩,
 ⟨some 43, .mov (.t 4), (some (40, true))⟩,
 ⟨some 44, .bin .leq (.t 42) (.t 43), (some (40, true))⟩,
 ⟨some 45, .pick (.t 40) (.t 44) (.c (.bool false)), none⟩] [1, 4, 5, 8, 9, 10, 11, 45])
 (.cond (.t 45)
 (.region none [
 ⟨some 46, .mov (.t 4), none⟩,
 ⟨some 47, .bin .quo (.t 46) (.c (.int .i64 2)), none⟩,
 ⟨some 48, .mov (.t 5), none⟩,
 ⟨some 4, .mov (.t 47), none⟩,
 ⟨some 8, .mov (.t 48), none⟩] [1, 4, 5, 8, 9, 10, 11])
 .skip)))
 .skip)))))
 (.region none [
 ⟨some 49, .mov (.t 1), none⟩,
 ⟨some 50, .mov (.t 4), none⟩,
 ⟨some 51, .mov (.t 8), none⟩,
 ⟨some 52, .callv (.t 49) [(.t 50), (.t 51)], none⟩] [1, 4, 5, 9, 10, 11])))))
 (.region none [
 ⟨some 53, .bin .add (.t 11) (.c (.int .i64 1)), none⟩,
 ⟨some 11, .mov (.t 53), none⟩] [1, 4, 5, 9, 10, 11])))))))),
 []⟩
 
/-- peloton/stretch.Sizes$1 -/
def x14 : XFunc := ⟨3,
 (.region none [
 ⟨some 5, .load none (.t 2), none⟩,
 ⟨some 6, .mov (.t 0), none⟩,
 ⟨some 7, .mkrow 1 1 [.int .i64 0] [(0, (.t 6))], none⟩,
 ⟨some 8, .append 1 (.t 5) (.t 7), none⟩,
 ⟨none, .store 1 (.t 2) (.t 8), none⟩] []),
 []⟩
 
/-- peloton/pelotonref23.Went -/
def x15 : XFunc := ⟨1,
 (.seq
 (.region none [
 ⟨some 2, .mov (.c (.sl 1 true [])), none⟩,
 ⟨some 3, .mov (.c (.int .i64 0)), none⟩] [0])
 (.seq
 (.region none [
 ⟨some 10, .mkrow 1 1 [.int .i64 0] [(0, (.c (.int .i64 (-1))))], none⟩,
 ⟨some 4, .mov (.t 10), none⟩] [0, 4])
 (.seq
 (.region none [
 ⟨some 5, .mov (.c (.sl 1 true [])), none⟩] [0, 4, 5])
 (.seq
 (.region none [
 ⟨some 6, .mov (.c (.int .i64 0)), none⟩] [0, 4, 5, 6])
 (.seq
 (.seq
 (.region none [
 ⟨some 7, .mov (.c (.int .i64 0)), none⟩] [0, 4, 5, 6, 7])
 (.block 0
 (.loop [(0, none), (4, none), (5, some 1), (6, none), (7, none)]
 (.seq
 (.seq
 (.region none [
 ⟨some 11, .mov (.t 7), none⟩,
 ⟨some 12, .mov (.t 0), none⟩,
 ⟨some 13, .len (.t 12), none⟩,
 ⟨some 14, .bin .lss (.t 11) (.t 13), none⟩] [0, 4, 5, 6, 7, 14])
 (.cond (.t 14)
 .skip
 (.exit 0)))
 (.seq
 (.block 1
 (.seq
 (.region none [
 ⟨some 17, .mov (.t 4), none⟩,
 ⟨some 8, .mov (.t 17), none⟩] [0, 4, 5, 6, 7, 8])
 (.seq
 (.seq
 (.region none [
 ⟨some 18, .mov (.t 0), none⟩,
 ⟨some 19, .mov (.t 7), none⟩,
 ⟨some 20, .iadr 1 (.t 18) (.t 19), none⟩,
 ⟨some 21, .load none (.t 20), none⟩,
 ⟨some 22, .mov (.t 21), none⟩,
 ⟨some 23, .mov (.t 4), (some (22, true))⟩,
 ⟨some 24, .call .pur 17 [(.t 23)], (some (22, true))⟩,
 ⟨some 25, .bin .lss (.t 24) (.c (.int .i64 64)), (some (22, true))⟩,
 ⟨some 26, .pick (.t 22) (.t 25) (.c (.bool false)), none⟩] [0, 4, 5, 6, 7, 8, 26])
 (.cond (.t 26)
 (.seq
 (.region none [
 ⟨some 27, .mov (.t 4), none⟩,
 ⟨some 28, .mov (.t 7), none⟩,
 ⟨some 29, .call .pur 18 [(.t 27), (.t 28)], none⟩,
 ⟨some 4, .mov (.t 29), none⟩] [0, 4, 5, 6, 7, 8])
 (.seq
 (.region none [
 ⟨some 30, .mov (.t 4), none⟩,
 ⟨some 31, .len (.t 30), none⟩,
 ⟨some 32, .mov (.t 8), none⟩,
 ⟨some 33, .len (.t 32), none⟩,
 ⟨some 34, .bin .gtr (.t 31) (.t 33), none⟩] [0, 4, 5, 6, 7, 8, 34])
 (.cond (.t 34)
 (.region none [
 ⟨some 35, .mov (.t 6), none⟩,
 ⟨some 36, .mov (.t 8), none⟩,
 ⟨some 37, .call .pur 17 [(.t 36)], none⟩,
 ⟨some 38, .bin .add (.t 35) (.t 37), none⟩,
 ⟨some 6, .mov (.t 38), none⟩] [0, 4, 5, 6, 7, 8])
 .skip)))
 .skip))
 (.seq
 (.seq
 (.region none [
 ⟨some 39, .mov (.t 0), none⟩,
 ⟨some 40, .mov (.t 7), none⟩,
 ⟨some 41, .iadr 1 (.t 39) (.t 40), none⟩,
 ⟨some 42, .load none (.t 41), none⟩,
 ⟨some 43, .un .not (.t 42), none⟩] [0, 4, 5, 6, 7, 8, 43])
 (.cond (.t 43)
 (.seq
 (.seq
 (.region none [
 ⟨some 9, .mov (.c (.int .i64 0)), none⟩] [0, 4, 5, 6, 7, 8, 9])
 (.block 2
 (.loop [(0, none), (4, none), (5, none), (6, none), (7, none), (8, none), (9, none)]
 (.seq
 (.seq
 (.region none [
 ⟨some 44, .mov (.t 9), none⟩,
 ⟨some 45, .mov (.t 8), none⟩,
 ⟨some 46, .len (.t 45), none⟩,
 ⟨some 47, .bin .lss (.t 44) (.t 46), none⟩] [0, 4, 5, 6, 7, 8, 9, 47])
 (.cond (.t 47)
 .skip
 (.exit 2)))
 (.seq
 (.block 3
 (.seq
 (.region none [
 ⟨some 50, .mov (.t 8), none⟩,
 ⟨some 51, .mov (.t 9), none⟩,
 ⟨some 52, .iadr 1 (.t 50) (.t 51), none⟩,
 ⟨some 53, .load none (.t 52), none⟩,
 ⟨some 54, .bin .geq (.t 53) (.c (.int .i64 0)), none⟩] [0, 4, 5, 6, 7, 8, 9, 54])
 (.cond (.t 54)
 (.seq
 (.region none [
 ⟨some 55, .mov (.t 4), none⟩,
 ⟨some 56, .mov (.t 8), none⟩,
 ⟨some 57, .mov (.t 9), none⟩,
 ⟨some 58, .iadr 1 (.t 56) (.t 57), none⟩,
 ⟨some 59, .load none (.t 58), none⟩,
 ⟨some 60, .call .pur 19 [(.t 55), (.t 59)], none⟩,
 ⟨some 4, .mov (.t 60), none⟩] [0, 4, 5, 6, 7, 8])
 (.exit 2))
 .skip)))
 (.region none [
 ⟨some 48, .mov (.t 9), none⟩,
 ⟨some 49, .bin .add (.t 48) (.c (.int .i64 1)), none⟩,
 ⟨some 9, .mov (.t 49), none⟩] [0, 4, 5, 6, 7, 8, 9]))))))
 (.seq
 (.region none [
 ⟨some 61, .mov (.t 4), none⟩,
 ⟨some 62, .len (.t 61), none⟩,
 ⟨some 63, .mov (.t 8), none⟩,
 ⟨some 64, .len (.t 63), none⟩,
 ⟨some 65, .bin .lss (.t 62) (.t 64), none⟩] [0, 4, 5, 6, 7, 65])
 (.cond (.t 65)
 (.region none [
 ⟨some 66, .mov (.t 6), none⟩,
 ⟨some 67, .mov (.t 4), none⟩,
 ⟨some 68, .call .pur 17 [(.t 67)], none⟩,
 ⟨some 69, .bin .add (.t 66) (.t 68), none⟩,
 ⟨some 6, .mov (.t 69), none⟩] [0, 4, 5, 6, 7])
 .skip)))
 .skip))
 (.region none [
 ⟨some 70, .mov (.t 5), none⟩,
 ⟨some 71, .mov (.t 4), none⟩,
 ⟨some 72, .len (.t 71), none⟩,
 ⟨some 73, .mkrow 1 1 [.int .i64 0] [(0, (.t 72))], none⟩,
 ⟨some 74, .append 1 (.t 70) (.t 73), none⟩,
 ⟨some 5, .mov (.t 74), none⟩] [0, 4, 5, 6, 7])))))
 (.region none [
 ⟨some 15, .mov (.t 7), none⟩,
 ⟨some 16, .bin .add (.t 15) (.c (.int .i64 1)), none⟩,
 ⟨some 7, .mov (.t 16), none⟩] [0, 4, 5, 6, 7]))))))
 (.seq
 (.region none [
 ⟨some 75, .mov (.t 5), none⟩,
 ⟨some 76, .mov (.t 6), none⟩,
 ⟨some 2, .mov (.t 75), none⟩,
 ⟨some 3, .mov (.t 76), none⟩] [2, 3])
 .ret)))))),
 [.tmp 2, .tmp 3]⟩
 
/-- peloton/stretch.Moves$1 -/
def x16 : XFunc := ⟨3,
 (.region none [
 ⟨some 5, .load none (.t 2), none⟩,
 ⟨some 6, .mov (.t 1), none⟩,
 ⟨some 7, .bin .add (.t 5) (.t 6), none⟩,
 ⟨none, .store 1 (.t 2) (.t 7), none⟩] []),
 []⟩
 
/-- peloton/pelotonref23.held -/
def x17 : XFunc := ⟨1,
 (.seq
 (.region none [
 ⟨some 2, .mov (.c (.int .i64 0)), none⟩] [0])
 (.seq
 (.region none [
 ⟨some 3, .mov (.c (.int .i64 0)), none⟩] [0, 3])
 (.seq
 (.seq
 (.region none [
 ⟨some 4, .mov (.c (.int .i64 0)), none⟩] [0, 3, 4])
 (.block 0
 (.loop [(0, none), (3, none), (4, none)]
 (.seq
 (.seq
 (.region none [
 ⟨some 5, .mov (.t 4), none⟩,
 ⟨some 6, .mov (.t 0), none⟩,
 ⟨some 7, .len (.t 6), none⟩,
 ⟨some 8, .bin .lss (.t 5) (.t 7), none⟩] [0, 3, 4, 8])
 (.cond (.t 8)
 .skip
 (.exit 0)))
 (.seq
 (.block 1
 (.seq
 (.region none [
 ⟨some 11, .mov (.t 0), none⟩,
 ⟨some 12, .mov (.t 4), none⟩,
 ⟨some 13, .iadr 1 (.t 11) (.t 12), none⟩,
 ⟨some 14, .load none (.t 13), none⟩,
 ⟨some 15, .bin .geq (.t 14) (.c (.int .i64 0)), none⟩] [0, 3, 4, 15])
 (.cond (.t 15)
 (.region none [
 ⟨some 16, .mov (.t 3), none⟩,
 ⟨some 17, .bin .add (.t 16) (.c (.int .i64 1)), none⟩,
 ⟨some 3, .mov (.t 17), none⟩] [0, 3, 4])
 .skip)))
 (.region none [
 ⟨some 9, .mov (.t 4), none⟩,
 ⟨some 10, .bin .add (.t 9) (.c (.int .i64 1)), none⟩,
 ⟨some 4, .mov (.t 10), none⟩] [0, 3, 4]))))))
 (.seq
 (.region none [
 ⟨some 18, .mov (.t 3), none⟩,
 ⟨some 2, .mov (.t 18), none⟩] [2])
 .ret)))),
 [.tmp 2]⟩
 
/-- peloton/pelotonref16.With -/
def x18 : XFunc := ⟨2,
 (.seq
 (.region none [
 ⟨some 4, .mov (.c (.sl 1 true [])), none⟩] [0, 1])
 (.seq
 (.region none [
 ⟨some 7, .mkrow 1 0 [.int .i64 0] [], none⟩,
 ⟨some 8, .mov (.t 0), none⟩,
 ⟨some 9, .append 1 (.t 7) (.t 8), none⟩,
 ⟨some 5, .mov (.t 9), none⟩] [0, 1, 5])
 (.seq
 (.seq
 (.region none [
 ⟨some 6, .mov (.c (.int .i64 0)), none⟩] [0, 1, 5, 6])
 (.block 0
 (.loop [(0, none), (1, none), (5, none), (6, none)]
 (.seq
 (.seq
 (.region none [
 ⟨some 10, .mov (.t 6), none⟩,
 ⟨some 11, .mov (.t 5), none⟩,
 ⟨some 12, .len (.t 11), none⟩,
 ⟨some 13, .bin .lss (.t 10) (.t 12), none⟩] [0, 1, 5, 6, 13])
 (.cond (.t 13)
 .skip
 (.exit 0)))
 (.seq
 (.block 1
 (.seq
 (.region none [
 ⟨some 16, .mov (.t 5), none⟩,
 ⟨some 17, .mov (.t 6), none⟩,
 ⟨some 18, .iadr 1 (.t 16) (.t 17), none⟩,
 ⟨some 19, .load none (.t 18), none⟩,
 ⟨some 20, .bin .lss (.t 19) (.c (.int .i64 0)), none⟩] [0, 1, 5, 6, 20])
 (.cond (.t 20)
 (.seq
 (.region none [
 ⟨some 21, .mov (.t 5), none⟩,
 ⟨some 22, .mov (.t 6), none⟩,
 ⟨some 23, .mov (.t 1), none⟩,
 ⟨some 24, .iadr 1 (.t 21) (.t 22), none⟩,
 ⟨none, .store 1 (.t 24) (.t 23), none⟩] [5])
 (.seq
 (.region none [
 ⟨some 25, .mov (.t 5), none⟩,
 ⟨some 4, .mov (.t 25), none⟩] [4])
 .ret))
 .skip)))
 (.region none [
 ⟨some 14, .mov (.t 6), none⟩,
 ⟨some 15, .bin .add (.t 14) (.c (.int .i64 1)), none⟩,
 ⟨some 6, .mov (.t 15), none⟩] [0, 1, 5, 6]))))))
 (.seq
 (.region none [
 ⟨some 26, .mov (.t 5), none⟩,
 ⟨some 27, .mov (.t 1), none⟩,
 ⟨some 28, .mkrow 1 1 [.int .i64 0] [(0, (.t 27))], none⟩,
 ⟨some 29, .append 1 (.t 26) (.t 28), none⟩,
 ⟨some 5, .mov (.t 29), none⟩] [0, 5])
 (.seq
 (.block 2
 (.loop [(0, none), (5, some 1)]
 (.seq
 (.seq
 (.region none [
 ⟨some 30, .mov (.t 5), none⟩,
 ⟨some 31, .len (.t 30), none⟩,
 ⟨some 32, .mov (.t 0), none⟩,
 ⟨some 33, .len (.t 32), none⟩,
 ⟨some 34, .bin .mul (.c (.int .i64 2)) (.t 33), none⟩,
 ⟨some 35, .bin .lss (.t 31) (.t 34), none⟩] [0, 5, 35])
 (.cond (.t 35)
 .skip
 (.exit 2)))
 (.block 3
 (.region none [
 ⟨some 36, .mov (.t 5), none⟩,
 ⟨some 37, .mkrow 1 1 [.int .i64 0] [(0, (.c (.int .i64 (-1))))], none⟩,
 ⟨some 38, .append 1 (.t 36) (.t 37), none⟩,
 ⟨some 5, .mov (.t 38), none⟩] [0, 5])))))
 (.seq
 (.region none [
 ⟨some 39, .mov (.t 5), none⟩,
 ⟨some 4, .mov (.t 39), none⟩] [4])
 .ret)))))),
 [.tmp 4]⟩
 
/-- peloton/pelotonref16.Without -/
def x19 : XFunc := ⟨2,
 (.seq
 (.region none [
 ⟨some 4, .mov (.c (.sl 1 true [])), none⟩] [0, 1])
 (.seq
 (.region none [
 ⟨some 5, .mov (.c (.sl 1 true [])), none⟩,
 ⟨some 6, .mov (.c (.sl 1 true [])), none⟩] [0, 1, 5, 6])
 (.seq
 (.seq
 (.region none [
 ⟨some 7, .mov (.c (.int .i64 0)), none⟩] [0, 1, 5, 6, 7])
 (.block 0
 (.loop [(0, none), (1, none), (5, some 1), (6, some 1), (7, none)]
 (.seq
 (.seq
 (.region none [
 ⟨some 9, .mov (.t 7), none⟩,
 ⟨some 10, .mov (.t 0), none⟩,
 ⟨some 11, .len (.t 10), none⟩,
 ⟨some 12, .bin .lss (.t 9) (.t 11), none⟩] [0, 1, 5, 6, 7, 12])
 (.cond (.t 12)
 .skip
 (.exit 0)))
 (.seq
 (.block 1
 (.seq
 (.region none [
 ⟨some 15, .mov (.t 0), none⟩,
 ⟨some 16, .mov (.t 7), none⟩,
 ⟨some 17, .iadr 1 (.t 15) (.t 16), none⟩,
 ⟨some 18, .load none (.t 17), none⟩,
 ⟨some 8, .mov (.t 18), none⟩] [0, 1, 5, 6, 7, 8])
 (.seq
 (.seq
 (.region none [
 ⟨some 19, .mov (.t 8), none⟩,
 ⟨some 20, .mov (.t 1), none⟩,
 ⟨some 21, .bin .eql (.t 19) (.t 20), none⟩] [0, 1, 5, 6, 7, 8, 21])
 (.cond (.t 21)
 (.region none [
 ⟨some 8, .mov (.c (.int .i64 (-1))), none⟩] [0, 1, 5, 6, 7, 8])
 .skip))
 (.seq
 (.region none [
 ⟨some 22, .mov (.t 5), none⟩,
 ⟨some 23, .mov (.t 8), none⟩,
 ⟨some 24, .mkrow 1 1 [.int .i64 0] [(0, (.t 23))], none⟩,
 ⟨some 25, .append 1 (.t 22) (.t 24), none⟩,
 ⟨some 5, .mov (.t 25), none⟩] [0, 1, 5, 6, 7, 8])
 (.seq
 (.region none [
 ⟨some 26, .mov (.t 8), none⟩,
 ⟨some 27, .bin .geq (.t 26) (.c (.int .i64 0)), none⟩] [0, 1, 5, 6, 7, 8, 27])
 (.cond (.t 27)
 (.region none [
 ⟨some 28, .mov (.t 6), none⟩,
 ⟨some 29, .mov (.t 8), none⟩,
 ⟨some 30, .mkrow 1 1 [.int .i64 0] [(0, (.t 29))], none⟩,
 ⟨some 31, .append 1 (.t 28) (.t 30), none⟩,
 ⟨some 6, .mov (.t 31), none⟩] [0, 1, 5, 6, 7])
 .skip))))))
 (.region none [
 ⟨some 13, .mov (.t 7), none⟩,
 ⟨some 14, .bin .add (.t 13) (.c (.int .i64 1)), none⟩,
 ⟨some 7, .mov (.t 14), none⟩] [0, 1, 5, 6, 7]))))))
 (.seq
 (.seq
 (.region none [
 ⟨some 32, .mov (.t 0), none⟩,
 ⟨some 33, .len (.t 32), none⟩,
 ⟨some 34, .bin .eql (.t 33) (.c (.int .i64 1)), none⟩,
 ⟨some 35, .mov (.t 34), none⟩,
 ⟨some 36, .mov (.t 6), (some (35, false))⟩,
 ⟨some 37, .len (.t 36), (some (35, false))⟩,
 ⟨some 38, .bin .mul (.c (.int .i64 4)) (.t 37), (some (35, false))⟩,
 ⟨some 39, .mov (.t 0), (some (35, false))⟩,
 ⟨some 40, .len (.t 39), (some (35, false))⟩,
 ⟨some 41, .bin .gtr (.t 38) (.t 40), (some (35, false))⟩,
 ⟨some 42, .pick (.t 35) (.c (.bool true)) (.t 41), none⟩] [0, 5, 6, 42])
 (.cond (.t 42)
 (.seq
 (.region none [
 ⟨some 43, .mov (.t 5), none⟩,
 ⟨some 4, .mov (.t 43), none⟩] [4])
 .ret)
 .skip))
 (.seq
 (.block 2
 (.loop [(0, none), (6, some 1)]
 (.seq
 (.seq
 (.region none [
 ⟨some 44, .mov (.t 6), none⟩,
 ⟨some 45, .len (.t 44), none⟩,
 ⟨some 46, .mov (.t 0), none⟩,
 ⟨some 47, .len (.t 46), none⟩,
 ⟨some 48, .bin .quo (.t 47) (.c (.int .i64 2)), none⟩,
 ⟨some 49, .bin .lss (.t 45) (.t 48), none⟩] [0, 6, 49])
 (.cond (.t 49)
 .skip
 (.exit 2)))
 (.block 3
 (.region none [
 ⟨some 50, .mov (.t 6), none⟩,
 ⟨some 51, .mkrow 1 1 [.int .i64 0] [(0, (.c (.int .i64 (-1))))], none⟩,
 ⟨some 52, .append 1 (.t 50) (.t 51), none⟩,
 ⟨some 6, .mov (.t 52), none⟩] [0, 6])))))
 (.seq
 (.region none [
 ⟨some 53, .mov (.t 6), none⟩,
 ⟨some 4, .mov (.t 53), none⟩] [4])
 .ret)))))),
 [.tmp 4]⟩
 
theorem x3_ok : chkFunc Go.Proofs.Try.prog (fun _ => true) x3 3 = true := by decide +kernel
theorem x4_ok : chkFunc Go.Proofs.Try.prog (fun _ => true) x4 4 = true := by decide +kernel
theorem x5_ok : chkFunc Go.Proofs.Try.prog (fun _ => true) x5 5 = true := by decide +kernel
theorem x6_ok : chkFunc Go.Proofs.Try.prog (fun _ => true) x6 6 = true := by decide +kernel
theorem x7_ok : chkFunc Go.Proofs.Try.prog (fun _ => true) x7 7 = true := by decide +kernel
theorem x8_ok : chkFunc Go.Proofs.Try.prog (fun _ => true) x8 8 = true := by decide +kernel
theorem x9_ok : chkFunc Go.Proofs.Try.prog (fun _ => true) x9 9 = true := by decide +kernel
theorem x10_ok : chkFunc Go.Proofs.Try.prog (fun _ => true) x10 10 = true := by decide +kernel
theorem x11_ok : chkFunc Go.Proofs.Try.prog (fun _ => true) x11 11 = true := by decide +kernel
theorem x12_ok : chkFunc Go.Proofs.Try.prog (fun _ => true) x12 12 = true := by decide +kernel
theorem x13_ok : chkFunc Go.Proofs.Try.prog (fun _ => true) x13 13 = true := by decide +kernel
theorem x14_ok : chkFunc Go.Proofs.Try.prog (fun _ => true) x14 14 = true := by decide +kernel
theorem x15_ok : chkFunc Go.Proofs.Try.prog (fun _ => true) x15 15 = true := by decide +kernel
theorem x16_ok : chkFunc Go.Proofs.Try.prog (fun _ => true) x16 16 = true := by decide +kernel
theorem x17_ok : chkFunc Go.Proofs.Try.prog (fun _ => true) x17 17 = true := by decide +kernel
theorem x18_ok : chkFunc Go.Proofs.Try.prog (fun _ => true) x18 18 = true := by decide +kernel
theorem x19_ok : chkFunc Go.Proofs.Try.prog (fun _ => true) x19 19 = true := by decide +kernel
def tabT : TT := .node 11 (.node 7 (.node 5 (.node 4 (.leaf 3 (.code x3)) (.leaf 4 (.code x4))) (.node 6 (.leaf 5 (.code x5)) (.leaf 6 (.code x6)))) (.node 9 (.node 8 (.leaf 7 (.code x7)) (.leaf 8 (.code x8))) (.node 10 (.leaf 9 (.code x9)) (.leaf 10 (.code x10))))) (.node 15 (.node 13 (.node 12 (.leaf 11 (.code x11)) (.leaf 12 (.code x12))) (.node 14 (.leaf 13 (.code x13)) (.leaf 14 (.code x14)))) (.node 17 (.node 16 (.leaf 15 (.code x15)) (.leaf 16 (.code x16))) (.node 18 (.leaf 17 (.code x17)) (.node 19 (.leaf 18 (.code x18)) (.leaf 19 (.code x19))))))
theorem tab_all : tabT.All (EntOK Go.Proofs.Try.prog) := ⟨⟨⟨⟨x3_ok, x4_ok⟩, ⟨x5_ok, x6_ok⟩⟩, ⟨⟨x7_ok, x8_ok⟩, ⟨x9_ok, x10_ok⟩⟩⟩, ⟨⟨⟨x11_ok, x12_ok⟩, ⟨x13_ok, x14_ok⟩⟩, ⟨⟨x15_ok, x16_ok⟩, ⟨x17_ok, ⟨x18_ok, x19_ok⟩⟩⟩⟩⟩
def tab : Tab := tabT.get
theorem tab_3 : tab 3 = some (.code x3) := rfl
theorem tab_4 : tab 4 = some (.code x4) := rfl
theorem tab_5 : tab 5 = some (.code x5) := rfl
theorem tab_6 : tab 6 = some (.code x6) := rfl
theorem tab_7 : tab 7 = some (.code x7) := rfl
theorem tab_8 : tab 8 = some (.code x8) := rfl
theorem tab_9 : tab 9 = some (.code x9) := rfl
theorem tab_10 : tab 10 = some (.code x10) := rfl
theorem tab_11 : tab 11 = some (.code x11) := rfl
theorem tab_12 : tab 12 = some (.code x12) := rfl
theorem tab_13 : tab 13 = some (.code x13) := rfl
theorem tab_14 : tab 14 = some (.code x14) := rfl
theorem tab_15 : tab 15 = some (.code x15) := rfl
theorem tab_16 : tab 16 = some (.code x16) := rfl
theorem tab_17 : tab 17 = some (.code x17) := rfl
theorem tab_18 : tab 18 = some (.code x18) := rfl
theorem tab_19 : tab 19 = some (.code x19) := rfl
end Go.Proofs.Ytohmmcfniijjkaa
