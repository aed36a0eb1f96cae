/- Functions of the seat as the logical machine runs them, and the look at each of them (1). Printed by a program. -/
import Derived.Test.YtcpamijbhidheaaGreatVm3
import Derived.Test.YtcpamijbhidheaaGreatProg
set_option maxRecDepth 100000
namespace Go.Proofs.YtcpamijbhidheaaGreat
open Go.Vm
/-- peloton/pelotonlaw13.KheapNames -/
def x7 : XFunc := ⟨0,
(.seq
(.region none [
⟨some 0, .mov (.c (.bool false)), none⟩] [])
(.seq
(.region none [
⟨some 46, .call .pur 37 [], none⟩,
⟨some 47, .call .pur 38 [(.c (.int .i64 0))], none⟩,
⟨some 48, .call .pur 36 [(.t 46), (.t 47)], none⟩,
⟨some 1, .alloc [.int .i64 0, .int .i64 0, .sl 3 true [], .int .i64 0, .sl 3 true [], .sl 1 true [], .sl 1 true [], .sl 1 true [], .sl 5 true [], .sl 1 true [], .sl 3 true [], .sl 1 true []], none⟩,
⟨none, .store 12 (.t 1) (.t 48), none⟩] [1])
(.seq
(.seq
(.region none [
⟨some 49, .fadr 11 (.t 1), none⟩,
⟨some 50, .load none (.t 49), none⟩,
⟨some 51, .len (.t 50), none⟩,
⟨some 52, .bin .neq (.t 51) (.c (.int .i64 3)), none⟩,
⟨some 53, .mov (.t 52), none⟩,
⟨some 54, .fadr 0 (.t 1), (some (53, false))⟩,
⟨some 55, .fadr 3 (.t 54), (some (53, false))⟩,
⟨some 56, .fadr 1 (.t 55), (some (53, false))⟩,
⟨some 57, .load none (.t 56), (some (53, false))⟩,
⟨some 58, .len (.t 57), (some (53, false))⟩,
⟨some 59, .bin .neq (.t 58) (.c (.int .i64 2)), (some (53, false))⟩,
⟨some 60, .pick (.t 53) (.c (.bool true)) (.t 59), none⟩] [1, 60])
(.cond (.t 60)
(.seq
(.region none [
⟨some 0, .mov (.c (.bool false)), none⟩] [0])
.ret)
.skip))
(.seq
(.seq
(.region none [
⟨some 2, .mov (.c (.int .i64 0)), none⟩] [1, 2])
(.block 0
(.loop [(1, none), (2, none)]
(.seq
(.seq
(.region none [
⟨some 61, .mov (.t 2), none⟩,
⟨some 62, .bin .lss (.t 61) (.c (.int .i64 6)), none⟩] [1, 2, 62])
(.cond (.t 62)
.skip
(.exit 0)))
(.seq
(.block 1
(.seq
(.region none [
⟨some 65, .load (some 12) (.t 1), none⟩,
⟨some 66, .call .own 18 [(.t 65)], none⟩,
⟨some 3, .alloc [.int .i64 0, .int .i64 0, .sl 3 true [], .int .i64 0, .sl 3 true [], .sl 1 true [], .sl 1 true [], .sl 1 true [], .sl 5 true [], .sl 1 true [], .sl 3 true [], .sl 1 true []], none⟩,
⟨none, .store 12 (.t 3) (.t 66), none⟩] [1, 2, 3])
(.seq
(.seq
(.region none [
⟨some 67, .mov (.t 2), none⟩] [1, 2, 3, 67])
(.block 2
(.seq
(.region none [
⟨some 69, .bin .eql (.t 67) (.c (.int .i64 0)), none⟩,
⟨some 68, .mov (.t 69), none⟩] [1, 2, 3, 67, 68])
(.cond (.t 68)
(.region (some [0, 1, 0, 4, 3, 19, 63, 127]) [
⟨some 70, .fadr 11 (.t 3), none⟩,
⟨some 71, .load none (.t 70), none⟩,
⟨some 72, .fadr 11 (.t 3), none⟩,
⟨some 73, .load none (.t 72), none⟩,
⟨some 74, .iadr 1 (.t 71) (.c (.int .i64 0)), none⟩,
⟨none, .store 1 (.t 74) (.c (.int .i64 1)), none⟩,
⟨some 75, .iadr 1 (.t 73) (.c (.int .i64 1)), none⟩,
⟨none, .store 1 (.t 75) (.c (.int .i64 2)), none⟩] [1, 2, 3])
(.seq
(.region none [
⟨some 77, .bin .eql (.t 67) (.c (.int .i64 1)), none⟩,
⟨some 76, .mov (.t 77), none⟩] [1, 2, 3, 67, 76])
(.cond (.t 76)
(.region none [
⟨some 78, .fadr 11 (.t 3), none⟩,
⟨some 79, .load none (.t 78), none⟩,
⟨some 80, .slc 1 (.t 79) none (some (.c (.int .i64 2))) none, none⟩,
⟨some 81, .fadr 11 (.t 3), none⟩,
⟨none, .store 1 (.t 81) (.t 80), none⟩] [1, 2, 3])
(.seq
(.region none [
⟨some 83, .bin .eql (.t 67) (.c (.int .i64 2)), none⟩,
⟨some 82, .mov (.t 83), none⟩] [1, 2, 3, 67, 82])
(.cond (.t 82)
(.region none [
⟨some 84, .fadr 11 (.t 3), none⟩,
⟨some 85, .load none (.t 84), none⟩,
⟨some 86, .iadr 1 (.t 85) (.c (.int .i64 2)), none⟩,
⟨none, .store 1 (.t 86) (.c (.int .i64 1)), none⟩] [1, 2, 3])
(.seq
(.region none [
⟨some 88, .bin .eql (.t 67) (.c (.int .i64 3)), none⟩,
⟨some 87, .mov (.t 88), none⟩] [1, 2, 3, 67, 87])
(.cond (.t 87)
(.region none [
⟨some 89, .fadr 0 (.t 3), none⟩,
⟨some 90, .load (some 11) (.t 89), none⟩,
⟨some 91, .call .pur 39 [(.t 90), (.c (.int .i64 0))], none⟩,
⟨some 92, .fadr 0 (.t 3), none⟩,
⟨none, .store 11 (.t 92) (.t 91), none⟩] [1, 2, 3])
(.seq
(.region none [
⟨some 94, .bin .eql (.t 67) (.c (.int .i64 4)), none⟩,
⟨some 93, .mov (.t 94), none⟩] [1, 2, 3, 67, 93])
(.cond (.t 93)
(.region none [
⟨some 95, .build [.int .i64 0, .int .i64 0] [], none⟩,
⟨some 96, .fadr 0 (.t 3), none⟩,
⟨some 97, .fadr 0 (.t 96), none⟩,
⟨none, .store 2 (.t 97) (.t 95), none⟩] [1, 2, 3])
(.seq
(.region none [
⟨some 99, .bin .eql (.t 67) (.c (.int .i64 5)), none⟩,
⟨some 98, .mov (.t 99), none⟩] [1, 2, 3, 98])
(.cond (.t 98)
(.region none [
⟨some 100, .fadr 11 (.t 3), none⟩,
⟨some 101, .load none (.t 100), none⟩,
⟨some 102, .iadr 1 (.t 101) (.c (.int .i64 2)), none⟩,
⟨none, .store 1 (.t 102) (.c (.int .i64 7)), none⟩] [1, 2, 3])
.skip))))))))))))))
(.seq
(.region none [
⟨some 104, .load (some 12) (.t 3), none⟩,
⟨some 105, .call .pur 25 [(.t 104)], none⟩,
⟨some 103, .mov (.t 105), none⟩,
⟨some 106, .ext 0 (.t 103), none⟩,
⟨some 107, .ext 1 (.t 103), none⟩,
⟨some 4, .mov (.t 106), none⟩,
⟨some 5, .mov (.t 107), none⟩] [1, 2, 3, 5])
(.seq
(.region none [
⟨some 109, .load (some 12) (.t 3), none⟩,
⟨some 110, .call .pur 27 [(.t 109)], none⟩,
⟨some 108, .mov (.t 110), none⟩,
⟨some 111, .ext 0 (.t 108), none⟩,
⟨some 112, .ext 1 (.t 108), none⟩,
⟨some 6, .mov (.t 111), none⟩,
⟨some 7, .mov (.t 112), none⟩] [1, 2, 3, 5, 7])
(.seq
(.region none [
⟨some 114, .load (some 12) (.t 3), none⟩,
⟨some 115, .call .pur 29 [(.t 114)], none⟩,
⟨some 113, .mov (.t 115), none⟩,
⟨some 116, .ext 0 (.t 113), none⟩,
⟨some 117, .ext 1 (.t 113), none⟩,
⟨some 8, .alloc [.int .i64 0, .int .i64 0, .int .i64 0, .int .i64 0, .int .i64 0], none⟩,
⟨none, .store 5 (.t 8) (.t 116), none⟩,
⟨some 9, .mov (.t 117), none⟩] [1, 2, 3, 5, 7, 9])
(.seq
(.region none [
⟨some 119, .load (some 12) (.t 3), none⟩,
⟨some 120, .build [.int .i64 0, .int .i64 0] [], none⟩,
⟨some 121, .call .pur 19 [(.t 119), (.t 120)], none⟩,
⟨some 118, .mov (.t 121), none⟩,
⟨some 122, .ext 0 (.t 118), none⟩,
⟨some 123, .ext 1 (.t 118), none⟩,
⟨some 124, .ext 2 (.t 118), none⟩,
⟨some 10, .alloc [.int .i64 0, .int .i64 0, .sl 3 true [], .int .i64 0, .sl 3 true [], .sl 1 true [], .sl 1 true [], .sl 1 true [], .sl 5 true [], .sl 1 true [], .sl 3 true [], .sl 1 true []], none⟩,
⟨none, .store 12 (.t 10) (.t 122), none⟩,
⟨some 11, .mov (.t 123), none⟩,
⟨some 12, .mov (.t 124), none⟩] [1, 2, 3, 5, 7, 9, 12])
(.seq
(.region none [
⟨some 125, .load (some 12) (.t 3), none⟩,
⟨some 126, .call .pur 31 [(.t 125)], none⟩,
⟨some 127, .bin .neq (.t 126) (.c (.int .i64 8)), none⟩,
⟨some 128, .mov (.t 127), none⟩,
⟨some 129, .mov (.t 5), (some (128, false))⟩,
⟨some 130, .bin .neq (.t 129) (.c (.int .i64 8)), (some (128, false))⟩,
⟨some 131, .pick (.t 128) (.c (.bool true)) (.t 130), none⟩,
⟨some 132, .mov (.t 131), none⟩,
⟨some 133, .mov (.t 7), (some (132, false))⟩,
⟨some 134, .bin .neq (.t 133) (.c (.int .i64 8)), (some (132, false))⟩,
⟨some 135, .pick (.t 132) (.c (.bool true)) (.t 134), none⟩,
⟨some 136, .mov (.t 135), none⟩,
⟨some 137, .mov (.t 9), (some (136, false))⟩,
⟨some 138, .bin .neq (.t 137) (.c (.int .i64 8)), (some (136, false))⟩,
⟨some 139, .pick (.t 136) (.c (.bool true)) (.t 138), none⟩,
⟨some 140, .mov (.t 139), none⟩,
⟨some 141, .mov (.t 12), (some (140, false))⟩,
⟨some 142, .bin .neq (.t 141) (.c (.int .i64 8)), (some (140, false))⟩,
⟨some 143, .pick (.t 140) (.c (.bool true)) (.t 142), none⟩] [1, 2, 143])
(.cond (.t 143)
(.seq
(.region none [
⟨some 0, .mov (.c (.bool false)), none⟩] [0])
.ret)
.skip)))))))))
(.region none [
⟨some 63, .mov (.t 2), none⟩,
⟨some 64, .bin .add (.t 63) (.c (.int .i64 1)), none⟩,
⟨some 2, .mov (.t 64), none⟩] [1, 2]))))))
(.seq
(.region (some [0, 1, 0, 7, 15, 31, 31, 0, 191, 511]) [
⟨some 145, .mks 3 [.int .i64 0, .int .i64 0, .int .i64 0] (.c (.int .i64 65)) (.c (.int .i64 65)), none⟩,
⟨some 146, .build [.sl 3 true []] [(0, 1, (.t 145))], none⟩,
⟨some 147, .call .pur 38 [(.c (.int .i64 0))], none⟩,
⟨some 148, .call .pur 23 [(.t 146), (.t 147)], none⟩,
⟨some 144, .mov (.t 148), none⟩,
⟨some 149, .ext 0 (.t 144), none⟩,
⟨some 150, .ext 1 (.t 144), none⟩,
⟨some 13, .alloc [.int .i64 0, .int .i64 0, .sl 3 true [], .int .i64 0, .sl 3 true [], .sl 1 true [], .sl 1 true [], .sl 1 true [], .sl 5 true [], .sl 1 true [], .sl 3 true [], .sl 1 true []], none⟩,
⟨none, .store 12 (.t 13) (.t 149), none⟩,
⟨some 14, .mov (.t 150), none⟩] [1, 14])
(.seq
(.region none [
⟨some 152, .call .pur 37 [], none⟩,
⟨some 153, .build [.int .i64 0, .int .i64 0] [(0, 1, (.c (.int .i64 2))), (1, 1, (.c (.int .i64 2)))], none⟩,
⟨some 154, .call .pur 23 [(.t 152), (.t 153)], none⟩,
⟨some 151, .mov (.t 154), none⟩,
⟨some 155, .ext 0 (.t 151), none⟩,
⟨some 156, .ext 1 (.t 151), none⟩,
⟨some 15, .alloc [.int .i64 0, .int .i64 0, .sl 3 true [], .int .i64 0, .sl 3 true [], .sl 1 true [], .sl 1 true [], .sl 1 true [], .sl 5 true [], .sl 1 true [], .sl 3 true [], .sl 1 true []], none⟩,
⟨none, .store 12 (.t 15) (.t 155), none⟩,
⟨some 16, .mov (.t 156), none⟩] [1, 14, 16])
(.seq
(.region none [
⟨some 158, .build [.sl 3 true []] [], none⟩,
⟨some 159, .call .pur 38 [(.c (.int .i64 0))], none⟩,
⟨some 160, .call .pur 23 [(.t 158), (.t 159)], none⟩,
⟨some 157, .mov (.t 160), none⟩,
⟨some 161, .ext 0 (.t 157), none⟩,
⟨some 162, .ext 1 (.t 157), none⟩,
⟨some 17, .alloc [.int .i64 0, .int .i64 0, .sl 3 true [], .int .i64 0, .sl 3 true [], .sl 1 true [], .sl 1 true [], .sl 1 true [], .sl 5 true [], .sl 1 true [], .sl 3 true [], .sl 1 true []], none⟩,
⟨none, .store 12 (.t 17) (.t 161), none⟩,
⟨some 18, .mov (.t 162), none⟩] [1, 14, 16, 17, 18])
(.seq
(.region none [
⟨some 164, .load (some 12) (.t 17), none⟩,
⟨some 165, .call .pur 27 [(.t 164)], none⟩,
⟨some 163, .mov (.t 165), none⟩,
⟨some 166, .ext 0 (.t 163), none⟩,
⟨some 167, .ext 1 (.t 163), none⟩,
⟨some 19, .mov (.t 166), none⟩,
⟨some 20, .mov (.t 167), none⟩] [1, 14, 16, 17, 18, 20])
(.seq
(.region none [
⟨some 169, .load (some 12) (.t 17), none⟩,
⟨some 170, .call .pur 29 [(.t 169)], none⟩,
⟨some 168, .mov (.t 170), none⟩,
⟨some 171, .ext 0 (.t 168), none⟩,
⟨some 172, .ext 1 (.t 168), none⟩,
⟨some 21, .alloc [.int .i64 0, .int .i64 0, .int .i64 0, .int .i64 0, .int .i64 0], none⟩,
⟨none, .store 5 (.t 21) (.t 171), none⟩,
⟨some 22, .mov (.t 172), none⟩] [1, 14, 16, 17, 18, 20, 22])
(.seq
(.region (some [0, 0, 3, 7, 15, 15, 15, 0, 159, 447, 1023]) [
⟨some 174, .load (some 12) (.t 1), none⟩,
⟨some 175, .call .pur 38 [(.c (.int .i64 (-1)))], none⟩,
⟨some 176, .call .pur 19 [(.t 174), (.t 175)], none⟩,
⟨some 173, .mov (.t 176), none⟩,
⟨some 177, .ext 0 (.t 173), none⟩,
⟨some 178, .ext 1 (.t 173), none⟩,
⟨some 179, .ext 2 (.t 173), none⟩,
⟨some 23, .alloc [.int .i64 0, .int .i64 0, .sl 3 true [], .int .i64 0, .sl 3 true [], .sl 1 true [], .sl 1 true [], .sl 1 true [], .sl 5 true [], .sl 1 true [], .sl 3 true [], .sl 1 true []], none⟩,
⟨none, .store 12 (.t 23) (.t 177), none⟩,
⟨some 24, .mov (.t 178), none⟩,
⟨some 25, .mov (.t 179), none⟩] [1, 14, 16, 17, 18, 20, 22, 25])
(.seq
(.region none [
⟨some 181, .load (some 12) (.t 1), none⟩,
⟨some 182, .build [.int .i64 0, .int .i64 0] [(0, 1, (.c (.int .i64 1)))], none⟩,
⟨some 183, .call .pur 19 [(.t 181), (.t 182)], none⟩,
⟨some 180, .mov (.t 183), none⟩,
⟨some 184, .ext 0 (.t 180), none⟩,
⟨some 185, .ext 1 (.t 180), none⟩,
⟨some 186, .ext 2 (.t 180), none⟩,
⟨some 26, .alloc [.int .i64 0, .int .i64 0, .sl 3 true [], .int .i64 0, .sl 3 true [], .sl 1 true [], .sl 1 true [], .sl 1 true [], .sl 5 true [], .sl 1 true [], .sl 3 true [], .sl 1 true []], none⟩,
⟨none, .store 12 (.t 26) (.t 184), none⟩,
⟨some 27, .mov (.t 185), none⟩,
⟨some 28, .mov (.t 186), none⟩] [1, 14, 16, 17, 18, 20, 22, 25, 28])
(.seq
(.region none [
⟨some 188, .build [.int .i64 0, .int .i64 0, .sl 3 true [], .int .i64 0, .sl 3 true [], .sl 1 true [], .sl 1 true [], .sl 1 true [], .sl 5 true [], .sl 1 true [], .sl 3 true []] [], none⟩,
⟨some 189, .mks 3 [.int .i64 0, .int .i64 0, .int .i64 0] (.c (.int .i64 65)) (.c (.int .i64 65)), none⟩,
⟨some 190, .build [.sl 3 true []] [(0, 1, (.t 189))], none⟩,
⟨some 191, .call .pur 13 [(.t 188), (.t 190), (.c (.sl 2 true []))], none⟩,
⟨some 187, .mov (.t 191), none⟩,
⟨some 192, .ext 0 (.t 187), none⟩,
⟨some 193, .ext 1 (.t 187), none⟩,
⟨some 29, .alloc [.int .i64 0, .int .i64 0, .sl 3 true [], .int .i64 0, .sl 3 true [], .sl 1 true [], .sl 1 true [], .sl 1 true [], .sl 5 true [], .sl 1 true [], .sl 3 true []], none⟩,
⟨none, .store 11 (.t 29) (.t 192), none⟩,
⟨some 30, .mov (.t 193), none⟩] [1, 14, 16, 17, 18, 20, 22, 25, 28, 30])
(.seq
(.region (some [0, 1, 0, 4, 0, 16, 63, 127, 255, 255, 0, 1535, 4095]) [
⟨some 195, .fadr 0 (.t 1), none⟩,
⟨some 196, .load (some 11) (.t 195), none⟩,
⟨some 197, .mks 3 [.int .i64 0, .int .i64 0, .int .i64 0] (.c (.int .i64 65)) (.c (.int .i64 65)), none⟩,
⟨some 198, .build [.sl 3 true []] [(0, 1, (.t 197))], none⟩,
⟨some 199, .build [.int .i64 0, .int .i64 0] [], none⟩,
⟨some 200, .mkrow 2 1 [.int .i64 0, .int .i64 0] [(0, (.t 199))], none⟩,
⟨some 201, .call .pur 13 [(.t 196), (.t 198), (.t 200)], none⟩,
⟨some 194, .mov (.t 201), none⟩,
⟨some 202, .ext 0 (.t 194), none⟩,
⟨some 203, .ext 1 (.t 194), none⟩,
⟨some 31, .alloc [.int .i64 0, .int .i64 0, .sl 3 true [], .int .i64 0, .sl 3 true [], .sl 1 true [], .sl 1 true [], .sl 1 true [], .sl 5 true [], .sl 1 true [], .sl 3 true []], none⟩,
⟨none, .store 11 (.t 31) (.t 202), none⟩,
⟨some 32, .mov (.t 203), none⟩] [1, 14, 16, 17, 18, 20, 22, 25, 28, 30, 32])
(.seq
(.region (some [0, 1, 0, 0, 0, 24, 63, 127, 255, 255, 0, 1535, 4095]) [
⟨some 205, .fadr 0 (.t 1), none⟩,
⟨some 206, .load (some 11) (.t 205), none⟩,
⟨some 207, .call .pur 37 [], none⟩,
⟨some 208, .build [.int .i64 0, .int .i64 0] [(0, 1, (.c (.int .i64 9))), (1, 1, (.c (.int .i64 8)))], none⟩,
⟨some 209, .build [.int .i64 0, .int .i64 0] [(0, 1, (.c (.int .i64 1))), (1, 1, (.c (.int .i64 1)))], none⟩,
⟨some 210, .mkrow 2 2 [.int .i64 0, .int .i64 0] [(0, (.t 208)), (1, (.t 209))], none⟩,
⟨some 211, .call .pur 13 [(.t 206), (.t 207), (.t 210)], none⟩,
⟨some 204, .mov (.t 211), none⟩,
⟨some 212, .ext 0 (.t 204), none⟩,
⟨some 213, .ext 1 (.t 204), none⟩,
⟨some 33, .alloc [.int .i64 0, .int .i64 0, .sl 3 true [], .int .i64 0, .sl 3 true [], .sl 1 true [], .sl 1 true [], .sl 1 true [], .sl 5 true [], .sl 1 true [], .sl 3 true []], none⟩,
⟨none, .store 11 (.t 33) (.t 212), none⟩,
⟨some 34, .mov (.t 213), none⟩] [1, 14, 16, 17, 18, 20, 22, 25, 28, 30, 32, 34])
(.seq
(.region (some [0, 1, 0, 0, 0, 24, 63, 127, 255, 255, 0, 1535, 4095]) [
⟨some 215, .fadr 0 (.t 1), none⟩,
⟨some 216, .load (some 11) (.t 215), none⟩,
⟨some 217, .call .pur 37 [], none⟩,
⟨some 218, .build [.int .i64 0, .int .i64 0] [(0, 1, (.c (.int .i64 1))), (1, 1, (.c (.int .i64 9)))], none⟩,
⟨some 219, .build [.int .i64 0, .int .i64 0] [(0, 1, (.c (.int .i64 1))), (1, 1, (.c (.int .i64 9)))], none⟩,
⟨some 220, .mkrow 2 2 [.int .i64 0, .int .i64 0] [(0, (.t 218)), (1, (.t 219))], none⟩,
⟨some 221, .call .pur 13 [(.t 216), (.t 217), (.t 220)], none⟩,
⟨some 214, .mov (.t 221), none⟩,
⟨some 222, .ext 0 (.t 214), none⟩,
⟨some 223, .ext 1 (.t 214), none⟩,
⟨some 35, .alloc [.int .i64 0, .int .i64 0, .sl 3 true [], .int .i64 0, .sl 3 true [], .sl 1 true [], .sl 1 true [], .sl 1 true [], .sl 5 true [], .sl 1 true [], .sl 3 true []], none⟩,
⟨none, .store 11 (.t 35) (.t 222), none⟩,
⟨some 36, .mov (.t 223), none⟩] [1, 14, 16, 17, 18, 20, 22, 25, 28, 30, 32, 34, 36])
(.seq
(.region (some [0, 1, 0, 0, 8, 31, 63, 127, 127, 0, 767, 2047]) [
⟨some 225, .fadr 0 (.t 1), none⟩,
⟨some 226, .load (some 11) (.t 225), none⟩,
⟨some 227, .call .pur 37 [], none⟩,
⟨some 228, .build [.int .i64 0, .int .i64 0] [(0, 1, (.c (.int .i64 1))), (1, 1, (.c (.int .i64 9)))], none⟩,
⟨some 229, .mkrow 2 1 [.int .i64 0, .int .i64 0] [(0, (.t 228))], none⟩,
⟨some 230, .call .pur 13 [(.t 226), (.t 227), (.t 229)], none⟩,
⟨some 224, .mov (.t 230), none⟩,
⟨some 231, .ext 0 (.t 224), none⟩,
⟨some 232, .ext 1 (.t 224), none⟩,
⟨some 37, .alloc [.int .i64 0, .int .i64 0, .sl 3 true [], .int .i64 0, .sl 3 true [], .sl 1 true [], .sl 1 true [], .sl 1 true [], .sl 5 true [], .sl 1 true [], .sl 3 true []], none⟩,
⟨none, .store 11 (.t 37) (.t 231), none⟩,
⟨some 38, .mov (.t 232), none⟩] [1, 14, 16, 17, 18, 20, 22, 25, 28, 30, 32, 34, 36, 38])
(.seq
(.region none [
⟨some 233, .load (some 12) (.t 1), none⟩,
⟨some 234, .call .own 18 [(.t 233)], none⟩,
⟨some 39, .alloc [.int .i64 0, .int .i64 0, .sl 3 true [], .int .i64 0, .sl 3 true [], .sl 1 true [], .sl 1 true [], .sl 1 true [], .sl 5 true [], .sl 1 true [], .sl 3 true [], .sl 1 true []], none⟩,
⟨none, .store 12 (.t 39) (.t 234), none⟩] [14, 16, 17, 18, 20, 22, 25, 28, 30, 32, 34, 36, 38, 39])
(.seq
(.region none [
⟨some 235, .fadr 0 (.t 39), none⟩,
⟨some 236, .fadr 3 (.t 235), none⟩,
⟨some 237, .fadr 0 (.t 236), none⟩,
⟨none, .store 1 (.t 237) (.c (.int .i64 1000000)), none⟩] [14, 16, 17, 18, 20, 22, 25, 28, 30, 32, 34, 36, 38, 39])
(.seq
(.region (some [0, 0, 3, 7, 15, 15, 15, 0, 159, 447, 1023]) [
⟨some 239, .load (some 12) (.t 39), none⟩,
⟨some 240, .call .pur 38 [(.c (.int .i64 2))], none⟩,
⟨some 241, .call .pur 19 [(.t 239), (.t 240)], none⟩,
⟨some 238, .mov (.t 241), none⟩,
⟨some 242, .ext 0 (.t 238), none⟩,
⟨some 243, .ext 1 (.t 238), none⟩,
⟨some 244, .ext 2 (.t 238), none⟩,
⟨some 40, .alloc [.int .i64 0, .int .i64 0, .sl 3 true [], .int .i64 0, .sl 3 true [], .sl 1 true [], .sl 1 true [], .sl 1 true [], .sl 5 true [], .sl 1 true [], .sl 3 true [], .sl 1 true []], none⟩,
⟨none, .store 12 (.t 40) (.t 242), none⟩,
⟨some 41, .mov (.t 243), none⟩,
⟨some 42, .mov (.t 244), none⟩] [14, 16, 17, 18, 20, 22, 25, 28, 30, 32, 34, 36, 38, 39, 42])
(.seq
(.region (some [0, 0, 3, 7, 15, 15, 15, 0, 159, 447, 1023]) [
⟨some 246, .load (some 12) (.t 39), none⟩,
⟨some 247, .call .pur 38 [(.c (.int .i64 1))], none⟩,
⟨some 248, .call .pur 19 [(.t 246), (.t 247)], none⟩,
⟨some 245, .mov (.t 248), none⟩,
⟨some 249, .ext 0 (.t 245), none⟩,
⟨some 250, .ext 1 (.t 245), none⟩,
⟨some 251, .ext 2 (.t 245), none⟩,
⟨some 43, .alloc [.int .i64 0, .int .i64 0, .sl 3 true [], .int .i64 0, .sl 3 true [], .sl 1 true [], .sl 1 true [], .sl 1 true [], .sl 5 true [], .sl 1 true [], .sl 3 true [], .sl 1 true []], none⟩,
⟨none, .store 12 (.t 43) (.t 249), none⟩,
⟨some 44, .mov (.t 250), none⟩,
⟨some 45, .mov (.t 251), none⟩] [14, 16, 17, 18, 20, 22, 25, 28, 30, 32, 34, 36, 38, 42, 45])
(.seq
(.region none [
⟨some 252, .call .pur 33 [], none⟩,
⟨some 253, .mov (.t 252), none⟩,
⟨some 254, .mov (.t 14), (some (253, true))⟩,
⟨some 255, .bin .eql (.t 254) (.c (.int .i64 4)), (some (253, true))⟩,
⟨some 256, .pick (.t 253) (.t 255) (.c (.bool false)), none⟩,
⟨some 257, .mov (.t 256), none⟩,
⟨some 258, .mov (.t 16), (some (257, true))⟩,
⟨some 259, .bin .eql (.t 258) (.c (.int .i64 8)), (some (257, true))⟩,
⟨some 260, .pick (.t 257) (.t 259) (.c (.bool false)), none⟩,
⟨some 261, .mov (.t 260), none⟩,
⟨some 262, .mov (.t 18), (some (261, true))⟩,
⟨some 263, .bin .eql (.t 262) (.c (.int .i64 0)), (some (261, true))⟩,
⟨some 264, .pick (.t 261) (.t 263) (.c (.bool false)), none⟩,
⟨some 265, .mov (.t 264), none⟩,
⟨some 266, .fadr 11 (.t 17), (some (265, true))⟩,
⟨some 267, .load none (.t 266), (some (265, true))⟩,
⟨some 268, .len (.t 267), (some (265, true))⟩,
⟨some 269, .bin .eql (.t 268) (.c (.int .i64 0)), (some (265, true))⟩,
⟨some 270, .pick (.t 265) (.t 269) (.c (.bool false)), none⟩,
⟨some 271, .mov (.t 270), none⟩,
⟨some 272, .mov (.t 20), (some (271, true))⟩,
⟨some 273, .bin .eql (.t 272) (.c (.int .i64 42)), (some (271, true))⟩,
⟨some 274, .pick (.t 271) (.t 273) (.c (.bool false)), none⟩,
⟨some 275, .mov (.t 274), none⟩,
⟨some 276, .mov (.t 22), (some (275, true))⟩,
⟨some 277, .bin .eql (.t 276) (.c (.int .i64 42)), (some (275, true))⟩,
⟨some 278, .pick (.t 275) (.t 277) (.c (.bool false)), none⟩,
⟨some 279, .mov (.t 278), none⟩,
⟨some 280, .mov (.t 25), (some (279, true))⟩,
⟨some 281, .bin .eql (.t 280) (.c (.int .i64 44)), (some (279, true))⟩,
⟨some 282, .pick (.t 279) (.t 281) (.c (.bool false)), none⟩,
⟨some 283, .mov (.t 282), none⟩,
⟨some 284, .mov (.t 28), (some (283, true))⟩,
⟨some 285, .bin .eql (.t 284) (.c (.int .i64 8)), (some (283, true))⟩,
⟨some 286, .pick (.t 283) (.t 285) (.c (.bool false)), none⟩,
⟨some 287, .mov (.t 286), none⟩,
⟨some 288, .mov (.t 30), (some (287, true))⟩,
⟨some 289, .bin .eql (.t 288) (.c (.int .i64 8)), (some (287, true))⟩,
⟨some 290, .pick (.t 287) (.t 289) (.c (.bool false)), none⟩,
⟨some 291, .mov (.t 290), none⟩,
⟨some 292, .mov (.t 32), (some (291, true))⟩,
⟨some 293, .bin .eql (.t 292) (.c (.int .i64 4)), (some (291, true))⟩,
⟨some 294, .pick (.t 291) (.t 293) (.c (.bool false)), none⟩,
⟨some 295, .mov (.t 294), none⟩,
⟨some 296, .mov (.t 34), (some (295, true))⟩,
⟨some 297, .bin .eql (.t 296) (.c (.int .i64 8)), (some (295, true))⟩,
⟨some 298, .pick (.t 295) (.t 297) (.c (.bool false)), none⟩,
⟨some 299, .mov (.t 298), none⟩,
⟨some 300, .mov (.t 36), (some (299, true))⟩,
⟨some 301, .bin .eql (.t 300) (.c (.int .i64 14)), (some (299, true))⟩,
⟨some 302, .pick (.t 299) (.t 301) (.c (.bool false)), none⟩,
⟨some 303, .mov (.t 302), none⟩,
⟨some 304, .mov (.t 38), (some (303, true))⟩,
⟨some 305, .bin .eql (.t 304) (.c (.int .i64 6)), (some (303, true))⟩,
⟨some 306, .pick (.t 303) (.t 305) (.c (.bool false)), none⟩,
⟨some 307, .mov (.t 306), none⟩,
⟨some 308, .mov (.t 42), (some (307, true))⟩,
⟨some 309, .bin .eql (.t 308) (.c (.int .i64 18)), (some (307, true))⟩,
⟨some 310, .pick (.t 307) (.t 309) (.c (.bool false)), none⟩,
⟨some 311, .mov (.t 310), none⟩,
⟨some 312, .mov (.t 45), (some (311, true))⟩,
⟨some 313, .bin .eql (.t 312) (.c (.int .i64 0)), (some (311, true))⟩,
⟨some 314, .pick (.t 311) (.t 313) (.c (.bool false)), none⟩,
⟨some 0, .mov (.t 314), none⟩] [0])
.ret))))))))))))))))))))),
[.tmp 0]⟩

theorem x7_ok : chkFunc Go.Proofs.Tryz.prog (fun _ => true) x7 7 = true := by decide +kernel

/-- peloton/pelotonref09.Twin -/
def x12 : XFunc := ⟨1,
(.seq
(.region none [
⟨some 1, .box (.t 0), none⟩,
⟨some 2, .alloc [.int .i64 0, .int .i64 0, .sl 3 true [], .int .i64 0, .sl 3 true [], .sl 1 true [], .sl 1 true [], .sl 1 true [], .sl 5 true [], .sl 1 true [], .sl 3 true []], none⟩] [1, 2])
(.seq
(.region (some [0, 1, 0, 4, 12, 0, 32, 124, 0, 256, 1020, 0, 0, 4096, 16380, 32767, 65535]) [
⟨some 3, .fadr 0 (.t 1), none⟩,
⟨some 4, .load (some 2) (.t 3), none⟩,
⟨some 5, .fadr 2 (.t 1), none⟩,
⟨some 6, .load (some 1) (.t 5), none⟩,
⟨some 7, .call .own 51 [(.t 6)], none⟩,
⟨some 8, .fadr 3 (.t 1), none⟩,
⟨some 9, .load (some 2) (.t 8), none⟩,
⟨some 10, .call .own 52 [(.t 9)], none⟩,
⟨some 11, .fadr 5 (.t 1), none⟩,
⟨some 12, .load (some 5) (.t 11), none⟩,
⟨some 13, .call .own 53 [(.t 12)], none⟩,
⟨some 14, .mkrow 3 0 [.int .i64 0, .int .i64 0, .int .i64 0] [], none⟩,
⟨some 15, .fadr 10 (.t 1), none⟩,
⟨some 16, .load none (.t 15), none⟩,
⟨some 17, .append 3 (.t 14) (.t 16), none⟩,
⟨some 18, .build [.int .i64 0, .int .i64 0, .sl 3 true [], .int .i64 0, .sl 3 true [], .sl 1 true [], .sl 1 true [], .sl 1 true [], .sl 5 true [], .sl 1 true [], .sl 3 true []] [(0, 2, (.t 4)), (2, 1, (.t 7)), (3, 2, (.t 10)), (5, 5, (.t 13)), (10, 1, (.t 17))], none⟩,
⟨none, .store 11 (.t 2) (.t 18), none⟩] [2])
.ret)),
[.cell 2 (some 11)]⟩

theorem x12_ok : chkFunc Go.Proofs.Tryz.prog (fun _ => true) x12 12 = true := by decide +kernel

/-- peloton/kheap.Renew -/
def x13 : XFunc := ⟨3,
(.seq
(.region none [
⟨some 3, .box (.t 0), none⟩,
⟨some 4, .box (.t 1), none⟩,
⟨some 6, .alloc [.int .i64 0, .int .i64 0, .sl 3 true [], .int .i64 0, .sl 3 true [], .sl 1 true [], .sl 1 true [], .sl 1 true [], .sl 5 true [], .sl 1 true [], .sl 3 true []], none⟩,
⟨some 7, .mov (.c (.int .i64 0)), none⟩] [2, 3, 4, 6])
(.seq
(.seq
(.region none [
⟨some 20, .load (some 11) (.t 3), none⟩,
⟨some 21, .call .pur 54 [(.t 20)], none⟩,
⟨some 8, .mov (.t 21), none⟩] [2, 3, 4, 6, 8])
(.seq
(.region none [
⟨some 22, .mov (.t 8), none⟩,
⟨some 23, .bin .neq (.t 22) (.c (.int .i64 0)), none⟩] [2, 3, 4, 6, 8, 23])
(.cond (.t 23)
(.seq
(.region none [
⟨some 24, .build [.int .i64 0, .int .i64 0, .sl 3 true [], .int .i64 0, .sl 3 true [], .sl 1 true [], .sl 1 true [], .sl 1 true [], .sl 5 true [], .sl 1 true [], .sl 3 true []] [], none⟩,
⟨some 25, .mov (.t 8), none⟩,
⟨none, .store 11 (.t 6) (.t 24), none⟩,
⟨some 7, .mov (.t 25), none⟩] [6, 7])
.ret)
.skip)))
(.seq
(.seq
(.region none [
⟨some 26, .load (some 1) (.t 4), none⟩,
⟨some 27, .call .pur 55 [(.t 26)], none⟩,
⟨some 9, .mov (.t 27), none⟩] [2, 3, 4, 6, 9])
(.seq
(.region none [
⟨some 28, .mov (.t 9), none⟩,
⟨some 29, .bin .neq (.t 28) (.c (.int .i64 0)), none⟩] [2, 3, 4, 6, 9, 29])
(.cond (.t 29)
(.seq
(.region none [
⟨some 30, .build [.int .i64 0, .int .i64 0, .sl 3 true [], .int .i64 0, .sl 3 true [], .sl 1 true [], .sl 1 true [], .sl 1 true [], .sl 5 true [], .sl 1 true [], .sl 3 true []] [], none⟩,
⟨some 31, .mov (.t 9), none⟩,
⟨none, .store 11 (.t 6) (.t 30), none⟩,
⟨some 7, .mov (.t 31), none⟩] [6, 7])
.ret)
.skip)))
(.seq
(.seq
(.region none [
⟨some 32, .mov (.t 2), none⟩,
⟨some 33, .len (.t 32), none⟩,
⟨some 34, .mov (.c (.int .i64 0)), none⟩] [2, 3, 4, 6, 32, 33, 34])
(.block 0
(.loop [(2, none), (3, none), (4, none), (6, none), (32, none), (33, none), (34, none)]
(.seq
(.region none [
⟨some 35, .bin .lss (.t 34) (.t 33), none⟩] [2, 3, 4, 6, 32, 33, 34, 35])
(.seq
(.cond (.t 35)
.skip
(.exit 0))
(.seq
(.block 1
(.seq
(.region none [
⟨some 36, .iadr 2 (.t 32) (.t 34), none⟩,
⟨some 37, .load (some 2) (.t 36), none⟩,
⟨some 11, .alloc [.int .i64 0, .int .i64 0], none⟩,
⟨none, .store 2 (.t 11) (.t 37), none⟩] [2, 3, 4, 6, 11, 32, 33, 34])
(.seq
(.region none [
⟨some 38, .fadr 0 (.t 11), none⟩,
⟨some 39, .load none (.t 38), none⟩,
⟨some 40, .bin .lss (.t 39) (.c (.int .i64 0)), none⟩,
⟨some 41, .mov (.t 40), none⟩,
⟨some 42, .fadr 1 (.t 11), (some (41, false))⟩,
⟨some 43, .load none (.t 42), (some (41, false))⟩,
⟨some 44, .bin .lss (.t 43) (.c (.int .i64 0)), (some (41, false))⟩,
⟨some 45, .pick (.t 41) (.c (.bool true)) (.t 44), none⟩,
⟨some 46, .mov (.t 45), none⟩,
⟨some 47, .fadr 0 (.t 11), (some (46, false))⟩,
⟨some 48, .load none (.t 47), (some (46, false))⟩,
⟨some 49, .bin .gtr (.t 48) (.c (.int .i64 65535)), (some (46, false))⟩,
⟨some 50, .pick (.t 46) (.c (.bool true)) (.t 49), none⟩,
⟨some 51, .mov (.t 50), none⟩,
⟨some 52, .fadr 1 (.t 11), (some (51, false))⟩,
⟨some 53, .load none (.t 52), (some (51, false))⟩,
⟨some 54, .bin .gtr (.t 53) (.c (.int .i64 65535)), (some (51, false))⟩,
⟨some 55, .pick (.t 51) (.c (.bool true)) (.t 54), none⟩,
⟨some 56, .mov (.t 55), none⟩,
⟨some 57, .fadr 0 (.t 11), (some (56, false))⟩,
⟨some 58, .load none (.t 57), (some (56, false))⟩,
⟨some 59, .fadr 1 (.t 11), (some (56, false))⟩,
⟨some 60, .load none (.t 59), (some (56, false))⟩,
⟨some 61, .bin .eql (.t 58) (.t 60), (some (56, false))⟩,
⟨some 62, .pick (.t 56) (.c (.bool true)) (.t 61), none⟩] [2, 3, 4, 6, 32, 33, 34, 62])
(.cond (.t 62)
(.seq
(.region none [
⟨some 63, .build [.int .i64 0, .int .i64 0, .sl 3 true [], .int .i64 0, .sl 3 true [], .sl 1 true [], .sl 1 true [], .sl 1 true [], .sl 5 true [], .sl 1 true [], .sl 3 true []] [], none⟩,
⟨none, .store 11 (.t 6) (.t 63), none⟩,
⟨some 7, .mov (.c (.int .i64 8)), none⟩] [6, 7])
.ret)
.skip))))
(.region none [
⟨some 64, .bin .add (.t 34) (.c (.int .i64 1)), none⟩,
⟨some 34, .mov (.t 64), none⟩] [2, 3, 4, 6, 32, 33, 34])))))))
(.seq
(.seq
(.region none [
⟨some 65, .mov (.t 2), none⟩,
⟨some 66, .len (.t 65), none⟩,
⟨some 67, .mov (.c (.int .i64 0)), none⟩] [2, 3, 4, 6, 65, 66, 67])
(.block 2
(.loop [(2, none), (3, none), (4, none), (6, none), (65, none), (66, none), (67, none)]
(.seq
(.region none [
⟨some 68, .bin .lss (.t 67) (.t 66), none⟩] [2, 3, 4, 6, 65, 66, 67, 68])
(.seq
(.cond (.t 68)
.skip
(.exit 2))
(.seq
(.block 3
(.seq
(.region none [
⟨some 69, .mov (.t 67), none⟩,
⟨some 70, .iadr 2 (.t 65) (.t 67), none⟩,
⟨some 71, .load (some 2) (.t 70), none⟩,
⟨some 13, .alloc [.int .i64 0, .int .i64 0], none⟩,
⟨some 12, .mov (.t 69), none⟩,
⟨none, .store 2 (.t 13) (.t 71), none⟩] [2, 3, 4, 6, 12, 13, 65, 66, 67])
(.seq
(.region (some [0, 0, 3, 0, 15]) [
⟨some 72, .mov (.t 2), none⟩,
⟨some 73, .mov (.t 12), none⟩,
⟨some 74, .slc 2 (.t 72) none (some (.t 73)) none, none⟩,
⟨some 75, .load (some 2) (.t 13), none⟩,
⟨some 76, .call .pur 56 [(.t 74), (.t 75)], none⟩] [2, 3, 4, 6, 65, 66, 67, 76])
(.cond (.t 76)
(.seq
(.region none [
⟨some 77, .build [.int .i64 0, .int .i64 0, .sl 3 true [], .int .i64 0, .sl 3 true [], .sl 1 true [], .sl 1 true [], .sl 1 true [], .sl 5 true [], .sl 1 true [], .sl 3 true []] [], none⟩,
⟨none, .store 11 (.t 6) (.t 77), none⟩,
⟨some 7, .mov (.c (.int .i64 14)), none⟩] [6, 7])
.ret)
.skip))))
(.region none [
⟨some 78, .bin .add (.t 67) (.c (.int .i64 1)), none⟩,
⟨some 67, .mov (.t 78), none⟩] [2, 3, 4, 6, 65, 66, 67])))))))
(.seq
(.seq
(.region none [
⟨some 79, .mov (.t 2), none⟩,
⟨some 80, .len (.t 79), none⟩,
⟨some 81, .mov (.c (.int .i64 0)), none⟩] [2, 3, 4, 6, 79, 80, 81])
(.block 4
(.loop [(2, none), (3, none), (4, none), (6, none), (79, none), (80, none), (81, none)]
(.seq
(.region none [
⟨some 82, .bin .lss (.t 81) (.t 80), none⟩] [2, 3, 4, 6, 79, 80, 81, 82])
(.seq
(.cond (.t 82)
.skip
(.exit 4))
(.seq
(.block 5
(.seq
(.region none [
⟨some 83, .iadr 2 (.t 79) (.t 81), none⟩,
⟨some 84, .load (some 2) (.t 83), none⟩,
⟨some 15, .alloc [.int .i64 0, .int .i64 0], none⟩,
⟨none, .store 2 (.t 15) (.t 84), none⟩] [2, 3, 4, 6, 15, 79, 80, 81])
(.seq
(.region none [
⟨some 86, .load (some 1) (.t 4), none⟩,
⟨some 87, .fadr 0 (.t 15), none⟩,
⟨some 88, .load none (.t 87), none⟩,
⟨some 89, .call .pur 57 [(.t 86), (.t 88)], none⟩,
⟨some 85, .mov (.t 89), none⟩,
⟨some 90, .ext 0 (.t 85), none⟩,
⟨some 91, .ext 1 (.t 85), none⟩,
⟨some 16, .alloc [.int .i64 0, .int .i64 0, .int .i64 0], none⟩,
⟨none, .store 3 (.t 16) (.t 90), none⟩,
⟨some 17, .mov (.t 91), none⟩] [2, 3, 4, 6, 15, 17, 79, 80, 81])
(.seq
(.region none [
⟨some 93, .load (some 1) (.t 4), none⟩,
⟨some 94, .fadr 1 (.t 15), none⟩,
⟨some 95, .load none (.t 94), none⟩,
⟨some 96, .call .pur 57 [(.t 93), (.t 95)], none⟩,
⟨some 92, .mov (.t 96), none⟩,
⟨some 97, .ext 0 (.t 92), none⟩,
⟨some 98, .ext 1 (.t 92), none⟩,
⟨some 18, .alloc [.int .i64 0, .int .i64 0, .int .i64 0], none⟩,
⟨none, .store 3 (.t 18) (.t 97), none⟩,
⟨some 19, .mov (.t 98), none⟩] [2, 3, 4, 6, 17, 19, 79, 80, 81])
(.seq
(.region none [
⟨some 99, .mov (.t 17), none⟩,
⟨some 100, .bin .neq (.t 99) (.c (.int .i64 0)), none⟩,
⟨some 101, .mov (.t 100), none⟩,
⟨some 102, .mov (.t 19), (some (101, false))⟩,
⟨some 103, .bin .neq (.t 102) (.c (.int .i64 0)), (some (101, false))⟩,
⟨some 104, .pick (.t 101) (.c (.bool true)) (.t 103), none⟩] [2, 3, 4, 6, 79, 80, 81, 104])
(.cond (.t 104)
(.seq
(.region none [
⟨some 105, .build [.int .i64 0, .int .i64 0, .sl 3 true [], .int .i64 0, .sl 3 true [], .sl 1 true [], .sl 1 true [], .sl 1 true [], .sl 5 true [], .sl 1 true [], .sl 3 true []] [], none⟩,
⟨none, .store 11 (.t 6) (.t 105), none⟩,
⟨some 7, .mov (.c (.int .i64 6)), none⟩] [6, 7])
.ret)
.skip))))))
(.region none [
⟨some 106, .bin .add (.t 81) (.c (.int .i64 1)), none⟩,
⟨some 81, .mov (.t 106), none⟩] [2, 3, 4, 6, 79, 80, 81])))))))
(.seq
(.region (some [0, 1, 0, 0, 15, 31, 31, 127, 255]) [
⟨some 107, .load (some 11) (.t 3), none⟩,
⟨some 108, .call .own 59 [(.t 107)], none⟩,
⟨some 109, .load (some 1) (.t 4), none⟩,
⟨some 110, .mov (.t 2), none⟩,
⟨some 111, .call .pur 58 [(.t 108), (.t 109), (.t 110)], none⟩,
⟨some 112, .ext 0 (.t 111), none⟩,
⟨some 113, .ext 1 (.t 111), none⟩,
⟨none, .store 11 (.t 6) (.t 112), none⟩,
⟨some 7, .mov (.t 113), none⟩] [6, 7])
.ret))))))),
[.cell 6 (some 11), .tmp 7]⟩

theorem x13_ok : chkFunc Go.Proofs.Tryz.prog (fun _ => true) x13 13 = true := by decide +kernel

/-- peloton/pelotonref13.Twin -/
def x18 : XFunc := ⟨1,
(.seq
(.region none [
⟨some 1, .box (.t 0), none⟩,
⟨some 2, .alloc [.int .i64 0, .int .i64 0, .sl 3 true [], .int .i64 0, .sl 3 true [], .sl 1 true [], .sl 1 true [], .sl 1 true [], .sl 5 true [], .sl 1 true [], .sl 3 true [], .sl 1 true []], none⟩] [1, 2])
(.seq
(.region (some [0, 1, 3, 0, 0, 16, 63, 127, 255]) [
⟨some 3, .fadr 0 (.t 1), none⟩,
⟨some 4, .load (some 11) (.t 3), none⟩,
⟨some 5, .call .own 12 [(.t 4)], none⟩,
⟨some 6, .mkrow 1 0 [.int .i64 0] [], none⟩,
⟨some 7, .fadr 11 (.t 1), none⟩,
⟨some 8, .load none (.t 7), none⟩,
⟨some 9, .append 1 (.t 6) (.t 8), none⟩,
⟨some 10, .build [.int .i64 0, .int .i64 0, .sl 3 true [], .int .i64 0, .sl 3 true [], .sl 1 true [], .sl 1 true [], .sl 1 true [], .sl 5 true [], .sl 1 true [], .sl 3 true [], .sl 1 true []] [(0, 11, (.t 5)), (11, 1, (.t 9))], none⟩,
⟨none, .store 12 (.t 2) (.t 10), none⟩] [2])
.ret)),
[.cell 2 (some 12)]⟩

theorem x18_ok : chkFunc Go.Proofs.Tryz.prog (fun _ => true) x18 18 = true := by decide +kernel

/-- peloton/kheap.Advance -/
def x19 : XFunc := ⟨2,
(.seq
(.region none [
⟨some 2, .box (.t 0), none⟩,
⟨some 3, .box (.t 1), none⟩,
⟨some 4, .alloc [.int .i64 0, .int .i64 0, .sl 3 true [], .int .i64 0, .sl 3 true [], .sl 1 true [], .sl 1 true [], .sl 1 true [], .sl 5 true [], .sl 1 true [], .sl 3 true [], .sl 1 true []], none⟩,
⟨some 5, .mov (.c (.sl 2 true [])), none⟩,
⟨some 6, .mov (.c (.int .i64 0)), none⟩] [2, 3, 4])
(.seq
(.seq
(.region none [
⟨some 16, .load (some 12) (.t 2), none⟩,
⟨some 17, .call .pur 31 [(.t 16)], none⟩,
⟨some 7, .mov (.t 17), none⟩] [2, 3, 4, 7])
(.seq
(.region none [
⟨some 18, .mov (.t 7), none⟩,
⟨some 19, .bin .neq (.t 18) (.c (.int .i64 0)), none⟩] [2, 3, 4, 7, 19])
(.cond (.t 19)
(.seq
(.region none [
⟨some 20, .build [.int .i64 0, .int .i64 0, .sl 3 true [], .int .i64 0, .sl 3 true [], .sl 1 true [], .sl 1 true [], .sl 1 true [], .sl 5 true [], .sl 1 true [], .sl 3 true [], .sl 1 true []] [], none⟩,
⟨some 21, .mov (.t 7), none⟩,
⟨none, .store 12 (.t 4) (.t 20), none⟩,
⟨some 5, .mov (.c (.sl 2 true [])), none⟩,
⟨some 6, .mov (.t 21), none⟩] [4, 5, 6])
.ret)
.skip)))
(.seq
(.seq
(.region none [
⟨some 22, .load (some 2) (.t 3), none⟩,
⟨some 23, .call .pur 65 [(.t 22)], none⟩,
⟨some 24, .bin .neq (.t 23) (.c (.int .i64 0)), none⟩] [2, 3, 4, 24])
(.cond (.t 24)
(.seq
(.region none [
⟨some 25, .build [.int .i64 0, .int .i64 0, .sl 3 true [], .int .i64 0, .sl 3 true [], .sl 1 true [], .sl 1 true [], .sl 1 true [], .sl 5 true [], .sl 1 true [], .sl 3 true [], .sl 1 true []] [], none⟩,
⟨none, .store 12 (.t 4) (.t 25), none⟩,
⟨some 5, .mov (.c (.sl 2 true [])), none⟩,
⟨some 6, .mov (.c (.int .i64 8)), none⟩] [4, 5, 6])
.ret)
.skip))
(.seq
(.seq
(.region none [
⟨some 27, .load (some 2) (.t 3), none⟩,
⟨some 28, .fadr 0 (.t 2), none⟩,
⟨some 29, .fadr 0 (.t 28), none⟩,
⟨some 30, .load (some 2) (.t 29), none⟩,
⟨some 31, .call .pur 66 [(.t 27), (.t 30)], none⟩,
⟨some 26, .mov (.t 31), none⟩,
⟨some 32, .ext 0 (.t 26), none⟩,
⟨some 33, .ext 1 (.t 26), none⟩,
⟨some 8, .mov (.t 32), none⟩,
⟨some 9, .mov (.t 33), none⟩] [2, 3, 4, 8])
(.seq
(.region none [
⟨some 34, .mov (.t 8), none⟩,
⟨some 35, .bin .lss (.t 34) (.c (.int .i64 0)), none⟩] [2, 3, 4, 35])
(.cond (.t 35)
(.seq
(.region none [
⟨some 36, .build [.int .i64 0, .int .i64 0, .sl 3 true [], .int .i64 0, .sl 3 true [], .sl 1 true [], .sl 1 true [], .sl 1 true [], .sl 5 true [], .sl 1 true [], .sl 3 true [], .sl 1 true []] [], none⟩,
⟨none, .store 12 (.t 4) (.t 36), none⟩,
⟨some 5, .mov (.c (.sl 2 true [])), none⟩,
⟨some 6, .mov (.c (.int .i64 44)), none⟩] [4, 5, 6])
.ret)
.skip)))
(.seq
(.region none [
⟨some 10, .mov (.c (.sl 2 true [])), none⟩] [2, 3, 4, 10])
(.seq
(.block 0
(.loop [(2, none), (3, none), (4, none), (10, some 2)]
(.block 1
(.seq
(.region none [
⟨some 38, .load (some 12) (.t 2), none⟩,
⟨some 39, .load (some 2) (.t 3), none⟩,
⟨some 40, .call .pur 67 [(.t 38), (.t 39)], none⟩,
⟨some 37, .mov (.t 40), none⟩,
⟨some 41, .ext 0 (.t 37), none⟩,
⟨some 42, .ext 1 (.t 37), none⟩,
⟨some 43, .ext 2 (.t 37), none⟩,
⟨some 11, .alloc [.int .i64 0, .int .i64 0, .sl 3 true [], .int .i64 0, .sl 3 true [], .sl 1 true [], .sl 1 true [], .sl 1 true [], .sl 5 true [], .sl 1 true [], .sl 3 true [], .sl 1 true []], none⟩,
⟨some 12, .alloc [.int .i64 0, .int .i64 0], none⟩,
⟨none, .store 12 (.t 11) (.t 41), none⟩,
⟨none, .store 2 (.t 12) (.t 42), none⟩,
⟨some 13, .mov (.t 43), none⟩] [2, 3, 4, 10, 11, 12, 13])
(.seq
(.seq
(.region none [
⟨some 44, .mov (.t 13), none⟩,
⟨some 45, .bin .eql (.t 44) (.c (.int .i64 6)), none⟩] [2, 3, 4, 10, 11, 12, 13, 45])
(.cond (.t 45)
(.exit 0)
.skip))
(.seq
(.seq
(.region none [
⟨some 46, .mov (.t 13), none⟩,
⟨some 47, .bin .neq (.t 46) (.c (.int .i64 0)), none⟩] [2, 3, 4, 10, 11, 12, 13, 47])
(.cond (.t 47)
(.seq
(.region none [
⟨some 48, .build [.int .i64 0, .int .i64 0, .sl 3 true [], .int .i64 0, .sl 3 true [], .sl 1 true [], .sl 1 true [], .sl 1 true [], .sl 5 true [], .sl 1 true [], .sl 3 true [], .sl 1 true []] [], none⟩,
⟨some 49, .mov (.t 13), none⟩,
⟨none, .store 12 (.t 4) (.t 48), none⟩,
⟨some 5, .mov (.c (.sl 2 true [])), none⟩,
⟨some 6, .mov (.t 49), none⟩] [4, 5, 6])
.ret)
.skip))
(.region (some [0, 0, 0, 4, 14, 31, 63]) [
⟨some 50, .load (some 12) (.t 11), none⟩,
⟨some 51, .mov (.t 10), none⟩,
⟨some 52, .load (some 2) (.t 12), none⟩,
⟨some 53, .mkrow 2 1 [.int .i64 0, .int .i64 0] [(0, (.t 52))], none⟩,
⟨some 54, .append 2 (.t 51) (.t 53), none⟩,
⟨none, .store 12 (.t 2) (.t 50), none⟩,
⟨some 10, .mov (.t 54), none⟩] [2, 3, 4, 10])))))))
(.seq
(.region none [
⟨some 56, .fadr 0 (.t 2), none⟩,
⟨some 57, .load (some 11) (.t 56), none⟩,
⟨some 58, .load (some 2) (.t 3), none⟩,
⟨some 59, .call .pur 68 [(.t 57), (.t 58)], none⟩,
⟨some 55, .mov (.t 59), none⟩,
⟨some 60, .ext 0 (.t 55), none⟩,
⟨some 61, .ext 1 (.t 55), none⟩,
⟨some 14, .alloc [.int .i64 0, .int .i64 0, .sl 3 true [], .int .i64 0, .sl 3 true [], .sl 1 true [], .sl 1 true [], .sl 1 true [], .sl 5 true [], .sl 1 true [], .sl 3 true []], none⟩,
⟨none, .store 11 (.t 14) (.t 60), none⟩,
⟨some 15, .mov (.t 61), none⟩] [2, 4, 10, 14, 15])
(.seq
(.region (some [0, 0, 2, 6, 15, 0, 0, 31, 191, 511]) [
⟨some 62, .load (some 11) (.t 14), none⟩,
⟨some 63, .fadr 11 (.t 2), none⟩,
⟨some 64, .load none (.t 63), none⟩,
⟨some 65, .call .pur 69 [(.t 64)], none⟩,
⟨some 66, .build [.int .i64 0, .int .i64 0, .sl 3 true [], .int .i64 0, .sl 3 true [], .sl 1 true [], .sl 1 true [], .sl 1 true [], .sl 5 true [], .sl 1 true [], .sl 3 true [], .sl 1 true []] [(0, 11, (.t 62)), (11, 1, (.t 65))], none⟩,
⟨some 67, .mov (.t 10), none⟩,
⟨some 68, .mov (.t 15), none⟩,
⟨none, .store 12 (.t 4) (.t 66), none⟩,
⟨some 5, .mov (.t 67), none⟩,
⟨some 6, .mov (.t 68), none⟩] [4, 5, 6])
.ret)))))))),
[.cell 4 (some 12), .tmp 5, .tmp 6]⟩

theorem x19_ok : chkFunc Go.Proofs.Tryz.prog (fun _ => true) x19 19 = true := by decide +kernel

/-- peloton/pelotonref13.SameCerts -/
def x22 : XFunc := ⟨2,
(.seq
(.region none [
⟨some 4, .mov (.c (.bool false)), none⟩] [0, 1])
(.seq
(.seq
(.region none [
⟨some 6, .mov (.t 0), none⟩,
⟨some 7, .len (.t 6), none⟩,
⟨some 8, .mov (.t 1), none⟩,
⟨some 9, .len (.t 8), none⟩,
⟨some 10, .bin .neq (.t 7) (.t 9), none⟩] [0, 1, 10])
(.cond (.t 10)
(.seq
(.region none [
⟨some 4, .mov (.c (.bool false)), none⟩] [4])
.ret)
.skip))
(.seq
(.seq
(.region none [
⟨some 5, .mov (.c (.int .i64 0)), none⟩] [0, 1, 5])
(.block 0
(.loop [(0, none), (1, none), (5, none)]
(.seq
(.seq
(.region none [
⟨some 11, .mov (.t 5), none⟩,
⟨some 12, .mov (.t 0), none⟩,
⟨some 13, .len (.t 12), none⟩,
⟨some 14, .bin .lss (.t 11) (.t 13), none⟩] [0, 1, 5, 14])
(.cond (.t 14)
.skip
(.exit 0)))
(.seq
(.block 1
(.seq
(.region (some [0, 0, 3, 7, 0, 0, 48, 112, 255]) [
⟨some 17, .mov (.t 0), none⟩,
⟨some 18, .mov (.t 5), none⟩,
⟨some 19, .iadr 2 (.t 17) (.t 18), none⟩,
⟨some 20, .load (some 2) (.t 19), none⟩,
⟨some 21, .mov (.t 1), none⟩,
⟨some 22, .mov (.t 5), none⟩,
⟨some 23, .iadr 2 (.t 21) (.t 22), none⟩,
⟨some 24, .load (some 2) (.t 23), none⟩,
⟨some 25, .eqc 2 true (.t 20) (.t 24), none⟩] [0, 1, 5, 25])
(.cond (.t 25)
(.seq
(.region none [
⟨some 4, .mov (.c (.bool false)), none⟩] [4])
.ret)
.skip)))
(.region none [
⟨some 15, .mov (.t 5), none⟩,
⟨some 16, .bin .add (.t 15) (.c (.int .i64 1)), none⟩,
⟨some 5, .mov (.t 16), none⟩] [0, 1, 5]))))))
(.seq
(.region none [
⟨some 4, .mov (.c (.bool true)), none⟩] [4])
.ret)))),
[.tmp 4]⟩

theorem x22_ok : chkFunc Go.Proofs.Tryz.prog (fun _ => true) x22 22 = true := by decide +kernel

/-- peloton/kheap.Build -/
def x23 : XFunc := ⟨2,
(.seq
(.region none [
⟨some 2, .box (.t 0), none⟩,
⟨some 3, .box (.t 1), none⟩,
⟨some 4, .alloc [.int .i64 0, .int .i64 0, .sl 3 true [], .int .i64 0, .sl 3 true [], .sl 1 true [], .sl 1 true [], .sl 1 true [], .sl 5 true [], .sl 1 true [], .sl 3 true [], .sl 1 true []], none⟩,
⟨some 5, .mov (.c (.int .i64 0)), none⟩] [2, 3, 4])
(.seq
(.region none [
⟨some 12, .load (some 1) (.t 2), none⟩,
⟨some 13, .load (some 2) (.t 3), none⟩,
⟨some 14, .call .pur 73 [(.t 12), (.t 13)], none⟩,
⟨some 11, .mov (.t 14), none⟩,
⟨some 15, .ext 0 (.t 11), none⟩,
⟨some 16, .ext 1 (.t 11), none⟩,
⟨some 6, .alloc [.int .i64 0, .int .i64 0, .sl 3 true [], .int .i64 0, .sl 3 true [], .sl 1 true [], .sl 1 true [], .sl 1 true [], .sl 5 true [], .sl 1 true [], .sl 3 true []], none⟩,
⟨none, .store 11 (.t 6) (.t 15), none⟩,
⟨some 7, .mov (.t 16), none⟩] [2, 3, 4, 6, 7])
(.seq
(.seq
(.region none [
⟨some 17, .mov (.t 7), none⟩,
⟨some 18, .bin .neq (.t 17) (.c (.int .i64 0)), none⟩] [2, 3, 4, 6, 7, 18])
(.cond (.t 18)
(.seq
(.region none [
⟨some 19, .build [.int .i64 0, .int .i64 0, .sl 3 true [], .int .i64 0, .sl 3 true [], .sl 1 true [], .sl 1 true [], .sl 1 true [], .sl 5 true [], .sl 1 true [], .sl 3 true [], .sl 1 true []] [], none⟩,
⟨some 20, .mov (.t 7), none⟩,
⟨none, .store 12 (.t 4) (.t 19), none⟩,
⟨some 5, .mov (.t 20), none⟩] [4, 5])
.ret)
.skip))
(.seq
(.region none [
⟨some 8, .alloc [.int .i64 0, .int .i64 0, .sl 3 true [], .int .i64 0, .sl 3 true [], .sl 1 true [], .sl 1 true [], .sl 1 true [], .sl 5 true [], .sl 1 true [], .sl 3 true [], .sl 1 true []], none⟩] [2, 3, 4, 6, 8])
(.seq
(.seq
(.region none [
⟨some 21, .fadr 0 (.t 2), none⟩,
⟨some 22, .load none (.t 21), none⟩,
⟨some 23, .len (.t 22), none⟩,
⟨some 24, .mov (.c (.int .i64 0)), none⟩] [2, 3, 4, 6, 8, 22, 23, 24])
(.block 0
(.loop [(2, none), (3, none), (4, none), (6, none), (8, none), (22, none), (23, none), (24, none)]
(.seq
(.region none [
⟨some 25, .bin .lss (.t 24) (.t 23), none⟩] [2, 3, 4, 6, 8, 22, 23, 24, 25])
(.seq
(.cond (.t 25)
.skip
(.exit 0))
(.seq
(.block 1
(.seq
(.region none [
⟨some 26, .mov (.t 24), none⟩,
⟨some 27, .iadr 3 (.t 22) (.t 24), none⟩,
⟨some 28, .load (some 3) (.t 27), none⟩,
⟨some 10, .alloc [.int .i64 0, .int .i64 0, .int .i64 0], none⟩,
⟨some 9, .mov (.t 26), none⟩,
⟨none, .store 3 (.t 10) (.t 28), none⟩] [2, 3, 4, 6, 8, 9, 10, 22, 23, 24])
(.seq
(.region none [
⟨some 29, .fadr 11 (.t 8), none⟩,
⟨some 30, .load none (.t 29), none⟩,
⟨some 31, .fadr 0 (.t 10), none⟩,
⟨some 32, .load none (.t 31), none⟩,
⟨some 33, .mkrow 1 1 [.int .i64 0] [(0, (.t 32))], none⟩,
⟨some 34, .append 1 (.t 30) (.t 33), none⟩,
⟨some 35, .fadr 11 (.t 8), none⟩,
⟨none, .store 1 (.t 35) (.t 34), none⟩] [2, 3, 4, 6, 8, 9, 22, 23, 24])
(.region none [
⟨some 36, .load (some 1) (.t 2), none⟩,
⟨some 37, .load (some 2) (.t 3), none⟩,
⟨some 38, .fadr 11 (.t 8), none⟩,
⟨some 39, .load none (.t 38), none⟩,
⟨some 40, .mov (.t 9), none⟩,
⟨some 41, .call .fp 74 [(.t 36), (.t 37), (.t 39), (.t 40)], none⟩] [2, 3, 4, 6, 8, 22, 23, 24]))))
(.region none [
⟨some 42, .bin .add (.t 24) (.c (.int .i64 1)), none⟩,
⟨some 24, .mov (.t 42), none⟩] [2, 3, 4, 6, 8, 22, 23, 24])))))))
(.seq
(.region (some [0, 0, 0, 4, 12, 31, 63, 127, 127, 255, 767, 2047]) [
⟨some 44, .load (some 11) (.t 6), none⟩,
⟨some 45, .load (some 1) (.t 2), none⟩,
⟨some 46, .fadr 11 (.t 8), none⟩,
⟨some 47, .load none (.t 46), none⟩,
⟨some 48, .call .pur 75 [(.t 47)], none⟩,
⟨some 49, .call .pur 58 [(.t 44), (.t 45), (.t 48)], none⟩,
⟨some 43, .mov (.t 49), none⟩,
⟨some 50, .ext 0 (.t 43), none⟩,
⟨some 51, .ext 1 (.t 43), none⟩,
⟨some 52, .fadr 0 (.t 8), none⟩,
⟨none, .store 11 (.t 52) (.t 50), none⟩,
⟨some 7, .mov (.t 51), none⟩] [4, 7, 8])
(.seq
(.region none [
⟨some 53, .load (some 12) (.t 8), none⟩,
⟨some 54, .mov (.t 7), none⟩,
⟨none, .store 12 (.t 4) (.t 53), none⟩,
⟨some 5, .mov (.t 54), none⟩] [4, 5])
.ret))))))),
[.cell 4 (some 12), .tmp 5]⟩

theorem x23_ok : chkFunc Go.Proofs.Tryz.prog (fun _ => true) x23 23 = true := by decide +kernel

/-- peloton/kheap.Edges -/
def x25 : XFunc := ⟨1,
(.seq
(.region none [
⟨some 1, .box (.t 0), none⟩,
⟨some 2, .mov (.c (.sl 2 true [])), none⟩,
⟨some 3, .mov (.c (.int .i64 0)), none⟩] [1])
(.seq
(.seq
(.region none [
⟨some 5, .load (some 12) (.t 1), none⟩,
⟨some 6, .call .pur 31 [(.t 5)], none⟩,
⟨some 4, .mov (.t 6), none⟩] [1, 4])
(.seq
(.region none [
⟨some 7, .mov (.t 4), none⟩,
⟨some 8, .bin .neq (.t 7) (.c (.int .i64 0)), none⟩] [1, 4, 8])
(.cond (.t 8)
(.seq
(.region none [
⟨some 9, .mov (.t 4), none⟩,
⟨some 2, .mov (.c (.sl 2 true [])), none⟩,
⟨some 3, .mov (.t 9), none⟩] [2, 3])
.ret)
.skip)))
(.seq
(.region none [
⟨some 10, .fadr 11 (.t 1), none⟩,
⟨some 11, .load none (.t 10), none⟩,
⟨some 12, .call .pur 75 [(.t 11)], none⟩,
⟨some 2, .mov (.t 12), none⟩,
⟨some 3, .mov (.c (.int .i64 0)), none⟩] [2, 3])
.ret))),
[.tmp 2, .tmp 3]⟩

theorem x25_ok : chkFunc Go.Proofs.Tryz.prog (fun _ => true) x25 25 = true := by decide +kernel

/-- peloton/kheap.Leader -/
def x27 : XFunc := ⟨1,
(.seq
(.region none [
⟨some 1, .box (.t 0), none⟩,
⟨some 2, .mov (.c (.int .i64 0)), none⟩,
⟨some 3, .mov (.c (.int .i64 0)), none⟩] [1])
(.seq
(.seq
(.region none [
⟨some 5, .load (some 12) (.t 1), none⟩,
⟨some 6, .call .pur 31 [(.t 5)], none⟩,
⟨some 4, .mov (.t 6), none⟩] [1, 4])
(.seq
(.region none [
⟨some 7, .mov (.t 4), none⟩,
⟨some 8, .bin .neq (.t 7) (.c (.int .i64 0)), none⟩] [1, 4, 8])
(.cond (.t 8)
(.seq
(.region none [
⟨some 9, .mov (.t 4), none⟩,
⟨some 2, .mov (.c (.int .i64 0)), none⟩,
⟨some 3, .mov (.t 9), none⟩] [2, 3])
.ret)
.skip)))
(.seq
(.seq
(.region none [
⟨some 10, .fadr 11 (.t 1), none⟩,
⟨some 11, .load none (.t 10), none⟩,
⟨some 12, .len (.t 11), none⟩,
⟨some 13, .bin .eql (.t 12) (.c (.int .i64 0)), none⟩] [1, 13])
(.cond (.t 13)
(.seq
(.region none [
⟨some 2, .mov (.c (.int .i64 0)), none⟩,
⟨some 3, .mov (.c (.int .i64 42)), none⟩] [2, 3])
.ret)
.skip))
(.seq
(.region none [
⟨some 14, .fadr 11 (.t 1), none⟩,
⟨some 15, .load none (.t 14), none⟩,
⟨some 16, .iadr 1 (.t 15) (.c (.int .i64 0)), none⟩,
⟨some 17, .load none (.t 16), none⟩,
⟨some 2, .mov (.t 17), none⟩,
⟨some 3, .mov (.c (.int .i64 0)), none⟩] [2, 3])
.ret)))),
[.tmp 2, .tmp 3]⟩

theorem x27_ok : chkFunc Go.Proofs.Tryz.prog (fun _ => true) x27 27 = true := by decide +kernel

/-- peloton/kheap.Next -/
def x29 : XFunc := ⟨1,
(.seq
(.region none [
⟨some 1, .box (.t 0), none⟩,
⟨some 2, .alloc [.int .i64 0, .int .i64 0, .int .i64 0, .int .i64 0, .int .i64 0], none⟩,
⟨some 3, .mov (.c (.int .i64 0)), none⟩] [1, 2])
(.seq
(.seq
(.region none [
⟨some 5, .load (some 12) (.t 1), none⟩,
⟨some 6, .call .pur 31 [(.t 5)], none⟩,
⟨some 4, .mov (.t 6), none⟩] [1, 2, 4])
(.seq
(.region none [
⟨some 7, .mov (.t 4), none⟩,
⟨some 8, .bin .neq (.t 7) (.c (.int .i64 0)), none⟩] [1, 2, 4, 8])
(.cond (.t 8)
(.seq
(.region none [
⟨some 9, .build [.int .i64 0, .int .i64 0, .int .i64 0, .int .i64 0, .int .i64 0] [], none⟩,
⟨some 10, .mov (.t 4), none⟩,
⟨none, .store 5 (.t 2) (.t 9), none⟩,
⟨some 3, .mov (.t 10), none⟩] [2, 3])
.ret)
.skip)))
(.seq
(.region none [
⟨some 11, .fadr 0 (.t 1), none⟩,
⟨some 12, .load (some 11) (.t 11), none⟩,
⟨some 13, .call .pur 77 [(.t 12)], none⟩,
⟨some 14, .ext 0 (.t 13), none⟩,
⟨some 15, .ext 1 (.t 13), none⟩,
⟨none, .store 5 (.t 2) (.t 14), none⟩,
⟨some 3, .mov (.t 15), none⟩] [2, 3])
.ret))),
[.cell 2 (some 5), .tmp 3]⟩

theorem x29_ok : chkFunc Go.Proofs.Tryz.prog (fun _ => true) x29 29 = true := by decide +kernel

/-- peloton/kheap.Check -/
def x31 : XFunc := ⟨1,
(.seq
(.region none [
⟨some 1, .box (.t 0), none⟩,
⟨some 2, .mov (.c (.int .i64 0)), none⟩] [1])
(.seq
(.seq
(.region none [
⟨some 8, .fadr 0 (.t 1), none⟩,
⟨some 9, .load (some 11) (.t 8), none⟩,
⟨some 10, .call .pur 54 [(.t 9)], none⟩,
⟨some 11, .bin .neq (.t 10) (.c (.int .i64 0)), none⟩,
⟨some 12, .mov (.t 11), none⟩,
⟨some 13, .fadr 11 (.t 1), (some (12, false))⟩,
⟨some 14, .load none (.t 13), (some (12, false))⟩,
⟨some 15, .len (.t 14), (some (12, false))⟩,
⟨some 16, .fadr 0 (.t 1), (some (12, false))⟩,
⟨some 17, .fadr 2 (.t 16), (some (12, false))⟩,
⟨some 18, .fadr 0 (.t 17), (some (12, false))⟩,
⟨some 19, .load none (.t 18), (some (12, false))⟩,
⟨some 20, .len (.t 19), (some (12, false))⟩,
⟨some 21, .bin .neq (.t 15) (.t 20), (some (12, false))⟩,
⟨some 22, .pick (.t 12) (.c (.bool true)) (.t 21), none⟩] [1, 22])
(.cond (.t 22)
(.seq
(.region none [
⟨some 2, .mov (.c (.int .i64 8)), none⟩] [2])
.ret)
.skip))
(.seq
(.seq
(.region none [
⟨some 23, .fadr 0 (.t 1), none⟩,
⟨some 24, .fadr 2 (.t 23), none⟩,
⟨some 25, .fadr 0 (.t 24), none⟩,
⟨some 26, .load none (.t 25), none⟩,
⟨some 27, .len (.t 26), none⟩,
⟨some 28, .mov (.c (.int .i64 0)), none⟩] [1, 26, 27, 28])
(.block 0
(.loop [(1, none), (26, none), (27, none), (28, none)]
(.seq
(.region none [
⟨some 29, .bin .lss (.t 28) (.t 27), none⟩] [1, 26, 27, 28, 29])
(.seq
(.cond (.t 29)
.skip
(.exit 0))
(.seq
(.block 1
(.seq
(.region none [
⟨some 30, .iadr 3 (.t 26) (.t 28), none⟩,
⟨some 31, .load (some 3) (.t 30), none⟩,
⟨some 4, .alloc [.int .i64 0, .int .i64 0, .int .i64 0], none⟩,
⟨none, .store 3 (.t 4) (.t 31), none⟩] [1, 4, 26, 27, 28])
(.seq
(.region none [
⟨some 32, .fadr 11 (.t 1), none⟩,
⟨some 33, .load none (.t 32), none⟩,
⟨some 34, .fadr 0 (.t 4), none⟩,
⟨some 35, .load none (.t 34), none⟩,
⟨some 36, .call .pur 78 [(.t 33), (.t 35)], none⟩,
⟨some 37, .un .not (.t 36), none⟩] [1, 26, 27, 28, 37])
(.cond (.t 37)
(.seq
(.region none [
⟨some 2, .mov (.c (.int .i64 8)), none⟩] [2])
.ret)
.skip))))
(.region none [
⟨some 38, .bin .add (.t 28) (.c (.int .i64 1)), none⟩,
⟨some 28, .mov (.t 38), none⟩] [1, 26, 27, 28])))))))
(.seq
(.region none [
⟨some 39, .fadr 11 (.t 1), none⟩,
⟨some 40, .load none (.t 39), none⟩,
⟨some 41, .call .pur 75 [(.t 40)], none⟩,
⟨some 5, .mov (.t 41), none⟩] [1, 5])
(.seq
(.seq
(.region none [
⟨some 42, .mov (.t 5), none⟩,
⟨some 43, .len (.t 42), none⟩,
⟨some 44, .fadr 0 (.t 1), none⟩,
⟨some 45, .fadr 3 (.t 44), none⟩,
⟨some 46, .fadr 1 (.t 45), none⟩,
⟨some 47, .load none (.t 46), none⟩,
⟨some 48, .len (.t 47), none⟩,
⟨some 49, .bin .neq (.t 43) (.t 48), none⟩] [1, 5, 49])
(.cond (.t 49)
(.seq
(.region none [
⟨some 2, .mov (.c (.int .i64 8)), none⟩] [2])
.ret)
.skip))
(.seq
(.seq
(.region none [
⟨some 50, .fadr 0 (.t 1), none⟩,
⟨some 51, .fadr 3 (.t 50), none⟩,
⟨some 52, .fadr 1 (.t 51), none⟩,
⟨some 53, .load none (.t 52), none⟩,
⟨some 54, .len (.t 53), none⟩,
⟨some 55, .mov (.c (.int .i64 0)), none⟩] [1, 5, 53, 54, 55])
(.block 2
(.loop [(1, none), (5, none), (53, none), (54, none), (55, none)]
(.seq
(.region none [
⟨some 56, .bin .lss (.t 55) (.t 54), none⟩] [1, 5, 53, 54, 55, 56])
(.seq
(.cond (.t 56)
.skip
(.exit 2))
(.seq
(.block 3
(.seq
(.region none [
⟨some 57, .iadr 3 (.t 53) (.t 55), none⟩,
⟨some 58, .load (some 3) (.t 57), none⟩,
⟨some 7, .alloc [.int .i64 0, .int .i64 0, .int .i64 0], none⟩,
⟨none, .store 3 (.t 7) (.t 58), none⟩] [1, 5, 7, 53, 54, 55])
(.seq
(.region none [
⟨some 59, .mov (.t 5), none⟩,
⟨some 60, .fadr 1 (.t 7), none⟩,
⟨some 61, .load (some 2) (.t 60), none⟩,
⟨some 62, .call .pur 56 [(.t 59), (.t 61)], none⟩,
⟨some 63, .un .not (.t 62), none⟩,
⟨some 64, .mov (.t 63), none⟩,
⟨some 65, .fadr 0 (.t 1), (some (64, false))⟩,
⟨some 66, .fadr 2 (.t 65), (some (64, false))⟩,
⟨some 67, .load (some 1) (.t 66), (some (64, false))⟩,
⟨some 68, .fadr 0 (.t 1), (some (64, false))⟩,
⟨some 69, .fadr 0 (.t 68), (some (64, false))⟩,
⟨some 70, .load (some 2) (.t 69), (some (64, false))⟩,
⟨some 71, .fadr 1 (.t 7), (some (64, false))⟩,
⟨some 72, .fadr 1 (.t 71), (some (64, false))⟩,
⟨some 73, .load none (.t 72), (some (64, false))⟩,
⟨some 74, .fadr 1 (.t 7), (some (64, false))⟩,
⟨some 75, .fadr 0 (.t 74), (some (64, false))⟩,
⟨some 76, .load none (.t 75), (some (64, false))⟩,
⟨some 77, .call .pur 79 [(.t 67), (.t 70), (.t 73), (.t 76)], (some (64, false))⟩,
⟨some 78, .un .not (.t 77), (some (64, false))⟩,
⟨some 79, .pick (.t 64) (.c (.bool true)) (.t 78), none⟩] [1, 5, 53, 54, 55, 79])
(.cond (.t 79)
(.seq
(.region none [
⟨some 2, .mov (.c (.int .i64 8)), none⟩] [2])
.ret)
.skip))))
(.region none [
⟨some 80, .bin .add (.t 55) (.c (.int .i64 1)), none⟩,
⟨some 55, .mov (.t 80), none⟩] [1, 5, 53, 54, 55])))))))
(.seq
(.region none [
⟨some 2, .mov (.c (.int .i64 0)), none⟩] [2])
.ret))))))),
[.tmp 2]⟩

theorem x31_ok : chkFunc Go.Proofs.Tryz.prog (fun _ => true) x31 31 = true := by decide +kernel

/-- peloton/pelotonlaw13.alive -/
def x33 : XFunc := ⟨0,
(.seq
(.region none [
⟨some 0, .mov (.c (.bool false)), none⟩] [])
(.seq
(.region none [
⟨some 12, .call .pur 37 [], none⟩,
⟨some 13, .call .pur 38 [(.c (.int .i64 0))], none⟩,
⟨some 14, .call .pur 23 [(.t 12), (.t 13)], none⟩,
⟨some 11, .mov (.t 14), none⟩,
⟨some 15, .ext 0 (.t 11), none⟩,
⟨some 16, .ext 1 (.t 11), none⟩,
⟨some 1, .alloc [.int .i64 0, .int .i64 0, .sl 3 true [], .int .i64 0, .sl 3 true [], .sl 1 true [], .sl 1 true [], .sl 1 true [], .sl 5 true [], .sl 1 true [], .sl 3 true [], .sl 1 true []], none⟩,
⟨none, .store 12 (.t 1) (.t 15), none⟩,
⟨some 2, .mov (.t 16), none⟩] [1, 2])
(.seq
(.region (some [0, 0, 3, 7, 15, 15, 15, 0, 159, 447, 1023]) [
⟨some 18, .load (some 12) (.t 1), none⟩,
⟨some 19, .call .pur 38 [(.c (.int .i64 2))], none⟩,
⟨some 20, .call .pur 19 [(.t 18), (.t 19)], none⟩,
⟨some 17, .mov (.t 20), none⟩,
⟨some 21, .ext 0 (.t 17), none⟩,
⟨some 22, .ext 1 (.t 17), none⟩,
⟨some 23, .ext 2 (.t 17), none⟩,
⟨some 3, .alloc [.int .i64 0, .int .i64 0, .sl 3 true [], .int .i64 0, .sl 3 true [], .sl 1 true [], .sl 1 true [], .sl 1 true [], .sl 5 true [], .sl 1 true [], .sl 3 true [], .sl 1 true []], none⟩,
⟨none, .store 12 (.t 3) (.t 21), none⟩,
⟨some 4, .mov (.t 22), none⟩,
⟨some 5, .mov (.t 23), none⟩] [1, 2, 3, 4, 5])
(.seq
(.region (some [0, 0, 3, 7, 15, 15, 15, 0, 159, 447, 1023]) [
⟨some 25, .load (some 12) (.t 3), none⟩,
⟨some 26, .call .pur 38 [(.c (.int .i64 6))], none⟩,
⟨some 27, .call .pur 19 [(.t 25), (.t 26)], none⟩,
⟨some 24, .mov (.t 27), none⟩,
⟨some 28, .ext 0 (.t 24), none⟩,
⟨some 29, .ext 1 (.t 24), none⟩,
⟨some 30, .ext 2 (.t 24), none⟩,
⟨some 6, .alloc [.int .i64 0, .int .i64 0, .sl 3 true [], .int .i64 0, .sl 3 true [], .sl 1 true [], .sl 1 true [], .sl 1 true [], .sl 5 true [], .sl 1 true [], .sl 3 true [], .sl 1 true []], none⟩,
⟨none, .store 12 (.t 6) (.t 28), none⟩,
⟨some 7, .mov (.t 29), none⟩,
⟨some 8, .mov (.t 30), none⟩] [1, 2, 3, 4, 5, 6, 7, 8])
(.seq
(.region none [
⟨some 32, .load (some 12) (.t 6), none⟩,
⟨some 33, .call .pur 27 [(.t 32)], none⟩,
⟨some 31, .mov (.t 33), none⟩,
⟨some 34, .ext 0 (.t 31), none⟩,
⟨some 35, .ext 1 (.t 31), none⟩,
⟨some 9, .mov (.t 34), none⟩,
⟨some 10, .mov (.t 35), none⟩] [1, 2, 3, 4, 5, 6, 7, 8, 9, 10])
(.seq
(.region none [
⟨some 36, .mov (.t 2), none⟩,
⟨some 37, .bin .eql (.t 36) (.c (.int .i64 0)), none⟩,
⟨some 38, .mov (.t 37), none⟩,
⟨some 39, .mov (.t 5), (some (38, true))⟩,
⟨some 40, .bin .eql (.t 39) (.c (.int .i64 0)), (some (38, true))⟩,
⟨some 41, .pick (.t 38) (.t 40) (.c (.bool false)), none⟩,
⟨some 42, .mov (.t 41), none⟩,
⟨some 43, .mov (.t 8), (some (42, true))⟩,
⟨some 44, .bin .eql (.t 43) (.c (.int .i64 0)), (some (42, true))⟩,
⟨some 45, .pick (.t 42) (.t 44) (.c (.bool false)), none⟩,
⟨some 46, .mov (.t 45), none⟩,
⟨some 47, .mov (.t 10), (some (46, true))⟩,
⟨some 48, .bin .eql (.t 47) (.c (.int .i64 0)), (some (46, true))⟩,
⟨some 49, .pick (.t 46) (.t 48) (.c (.bool false)), none⟩,
⟨some 50, .mov (.t 49), none⟩,
⟨some 51, .fadr 11 (.t 1), (some (50, true))⟩,
⟨some 52, .load none (.t 51), (some (50, true))⟩,
⟨some 53, .mkrow 1 3 [.int .i64 0] [(0, (.c (.int .i64 2))), (1, (.c (.int .i64 1))), (2, (.c (.int .i64 5)))], (some (50, true))⟩,
⟨some 54, .call .pur 72 [(.t 52), (.t 53)], (some (50, true))⟩,
⟨some 55, .pick (.t 50) (.t 54) (.c (.bool false)), none⟩,
⟨some 56, .mov (.t 55), none⟩,
⟨some 57, .fadr 11 (.t 3), (some (56, true))⟩,
⟨some 58, .load none (.t 57), (some (56, true))⟩,
⟨some 59, .mkrow 1 3 [.int .i64 0] [(0, (.c (.int .i64 1))), (1, (.c (.int .i64 2))), (2, (.c (.int .i64 5)))], (some (56, true))⟩,
⟨some 60, .call .pur 72 [(.t 58), (.t 59)], (some (56, true))⟩,
⟨some 61, .pick (.t 56) (.t 60) (.c (.bool false)), none⟩,
⟨some 62, .mov (.t 61), none⟩,
⟨some 63, .mov (.t 4), (some (62, true))⟩,
⟨some 64, .build [.int .i64 0, .int .i64 0] [(0, 1, (.c (.int .i64 1))), (1, 1, (.c (.int .i64 2)))], (some (62, true))⟩,
⟨some 65, .mkrow 2 1 [.int .i64 0, .int .i64 0] [(0, (.t 64))], (some (62, true))⟩,
⟨some 66, .call .pur 22 [(.t 63), (.t 65)], (some (62, true))⟩,
⟨some 67, .pick (.t 62) (.t 66) (.c (.bool false)), none⟩,
⟨some 68, .mov (.t 67), none⟩,
⟨some 69, .mov (.t 7), (some (68, true))⟩,
⟨some 70, .len (.t 69), (some (68, true))⟩,
⟨some 71, .bin .eql (.t 70) (.c (.int .i64 0)), (some (68, true))⟩,
⟨some 72, .pick (.t 68) (.t 71) (.c (.bool false)), none⟩,
⟨some 73, .mov (.t 72), none⟩,
⟨some 74, .mov (.t 9), (some (73, true))⟩,
⟨some 75, .bin .eql (.t 74) (.c (.int .i64 1)), (some (73, true))⟩,
⟨some 76, .pick (.t 73) (.t 75) (.c (.bool false)), none⟩,
⟨some 77, .mov (.t 76), none⟩,
⟨some 78, .fadr 11 (.t 6), (some (77, true))⟩,
⟨some 79, .load none (.t 78), (some (77, true))⟩,
⟨some 80, .mkrow 1 3 [.int .i64 0] [(0, (.c (.int .i64 1))), (1, (.c (.int .i64 2))), (2, (.c (.int .i64 5)))], (some (77, true))⟩,
⟨some 81, .call .pur 72 [(.t 79), (.t 80)], (some (77, true))⟩,
⟨some 82, .pick (.t 77) (.t 81) (.c (.bool false)), none⟩,
⟨some 0, .mov (.t 82), none⟩] [0])
.ret)))))),
[.tmp 0]⟩

theorem x33_ok : chkFunc Go.Proofs.Tryz.prog (fun _ => true) x33 33 = true := by decide +kernel

/-- peloton/pelotonref01.Compare -/
def x35 : XFunc := ⟨2,
(.seq
(.region none [
⟨some 2, .box (.t 0), none⟩,
⟨some 3, .box (.t 1), none⟩,
⟨some 4, .mov (.c (.int .i64 0)), none⟩] [2, 3])
(.seq
(.region (some [0, 1, 0, 4, 15, 0, 32, 0, 128, 511, 0, 0, 4095, 8191]) [
⟨some 7, .fadr 0 (.t 2), none⟩,
⟨some 8, .load none (.t 7), none⟩,
⟨some 9, .fadr 1 (.t 3), none⟩,
⟨some 10, .load none (.t 9), none⟩,
⟨some 11, .call .pur 82 [(.t 8), (.t 10)], none⟩,
⟨some 12, .fadr 0 (.t 3), none⟩,
⟨some 13, .load none (.t 12), none⟩,
⟨some 14, .fadr 1 (.t 2), none⟩,
⟨some 15, .load none (.t 14), none⟩,
⟨some 16, .call .pur 82 [(.t 13), (.t 15)], none⟩,
⟨some 5, .alloc [.bool false, .int .u64 0, .int .u64 0], none⟩,
⟨some 6, .alloc [.bool false, .int .u64 0, .int .u64 0], none⟩,
⟨none, .store 3 (.t 5) (.t 11), none⟩,
⟨none, .store 3 (.t 6) (.t 16), none⟩] [5, 6])
(.seq
(.seq
(.region (some [0, 1, 0, 7, 15]) [
⟨some 17, .load (some 3) (.t 5), none⟩,
⟨some 18, .call .pur 83 [(.t 17)], none⟩,
⟨some 19, .load (some 3) (.t 6), none⟩,
⟨some 20, .call .pur 83 [(.t 19)], none⟩,
⟨some 21, .bin .neq (.t 18) (.t 20), none⟩] [5, 6, 21])
(.cond (.t 21)
(.seq
(.seq
(.region (some [0, 1, 0, 7, 15]) [
⟨some 22, .load (some 3) (.t 5), none⟩,
⟨some 23, .call .pur 83 [(.t 22)], none⟩,
⟨some 24, .load (some 3) (.t 6), none⟩,
⟨some 25, .call .pur 83 [(.t 24)], none⟩,
⟨some 26, .bin .lss (.t 23) (.t 25), none⟩] [26])
(.cond (.t 26)
(.seq
(.region none [
⟨some 4, .mov (.c (.int .i64 (-1))), none⟩] [4])
.ret)
.skip))
(.seq
(.region none [
⟨some 4, .mov (.c (.int .i64 1)), none⟩] [4])
.ret))
.skip))
(.seq
(.seq
(.region none [
⟨some 27, .load (some 3) (.t 5), none⟩,
⟨some 28, .call .pur 83 [(.t 27)], none⟩,
⟨some 29, .bin .lss (.t 28) (.c (.int .i64 0)), none⟩] [5, 6, 29])
(.cond (.t 29)
(.seq
(.region none [
⟨some 30, .load (some 3) (.t 6), none⟩,
⟨some 31, .load (some 3) (.t 5), none⟩,
⟨some 32, .call .pur 84 [(.t 30), (.t 31)], none⟩,
⟨some 4, .mov (.t 32), none⟩] [4])
.ret)
.skip))
(.seq
(.region none [
⟨some 33, .load (some 3) (.t 5), none⟩,
⟨some 34, .load (some 3) (.t 6), none⟩,
⟨some 35, .call .pur 84 [(.t 33), (.t 34)], none⟩,
⟨some 4, .mov (.t 35), none⟩] [4])
.ret))))),
[.tmp 4]⟩

theorem x35_ok : chkFunc Go.Proofs.Tryz.prog (fun _ => true) x35 35 = true := by decide +kernel

/-- peloton/pelotonref13.Heaped -/
def x36 : XFunc := ⟨2,
(.seq
(.region none [
⟨some 2, .box (.t 0), none⟩,
⟨some 3, .box (.t 1), none⟩,
⟨some 4, .alloc [.int .i64 0, .int .i64 0, .sl 3 true [], .int .i64 0, .sl 3 true [], .sl 1 true [], .sl 1 true [], .sl 1 true [], .sl 5 true [], .sl 1 true [], .sl 3 true [], .sl 1 true []], none⟩] [2, 3, 4])
(.seq
(.region none [
⟨some 5, .mov (.c (.sl 1 true [])), none⟩] [2, 3, 4, 5])
(.seq
(.seq
(.region none [
⟨some 6, .mov (.c (.int .i64 0)), none⟩] [2, 3, 4, 5, 6])
(.block 0
(.loop [(2, none), (3, none), (4, none), (5, none), (6, none)]
(.seq
(.seq
(.region none [
⟨some 9, .mov (.t 6), none⟩,
⟨some 10, .fadr 0 (.t 2), none⟩,
⟨some 11, .load none (.t 10), none⟩,
⟨some 12, .len (.t 11), none⟩,
⟨some 13, .bin .lss (.t 9) (.t 12), none⟩] [2, 3, 4, 5, 6, 13])
(.cond (.t 13)
.skip
(.exit 0)))
(.seq
(.block 1
(.region (some [0, 0, 0, 0, 12, 0, 32, 0, 224, 480, 992, 2016, 4092, 0, 16383, 32767]) [
⟨some 16, .load (some 1) (.t 2), none⟩,
⟨some 17, .load (some 2) (.t 3), none⟩,
⟨some 18, .mkrow 1 0 [.int .i64 0] [], none⟩,
⟨some 19, .mov (.t 5), none⟩,
⟨some 20, .append 1 (.t 18) (.t 19), none⟩,
⟨some 21, .fadr 0 (.t 2), none⟩,
⟨some 22, .load none (.t 21), none⟩,
⟨some 23, .mov (.t 6), none⟩,
⟨some 24, .iadr 3 (.t 22) (.t 23), none⟩,
⟨some 25, .fadr 0 (.t 24), none⟩,
⟨some 26, .load none (.t 25), none⟩,
⟨some 27, .mkrow 1 1 [.int .i64 0] [(0, (.t 26))], none⟩,
⟨some 28, .append 1 (.t 20) (.t 27), none⟩,
⟨some 29, .mov (.t 6), none⟩,
⟨some 30, .call .shr 85 [(.t 16), (.t 17), (.t 28), (.t 29)], none⟩,
⟨some 5, .mov (.t 30), none⟩] [2, 3, 4, 5, 6]))
(.region none [
⟨some 14, .mov (.t 6), none⟩,
⟨some 15, .bin .add (.t 14) (.c (.int .i64 1)), none⟩,
⟨some 6, .mov (.t 15), none⟩] [2, 3, 4, 5, 6]))))))
(.seq
(.region (some [0, 0, 3, 0, 0, 23, 63, 127, 255, 255, 0, 1535, 4095]) [
⟨some 32, .load (some 1) (.t 2), none⟩,
⟨some 33, .load (some 2) (.t 3), none⟩,
⟨some 34, .call .pur 86 [(.t 32), (.t 33)], none⟩,
⟨some 35, .load (some 1) (.t 2), none⟩,
⟨some 36, .mov (.t 5), none⟩,
⟨some 37, .call .pur 76 [(.t 36)], none⟩,
⟨some 38, .call .pur 62 [(.t 34), (.t 35), (.t 37)], none⟩,
⟨some 31, .mov (.t 38), none⟩,
⟨some 39, .ext 0 (.t 31), none⟩,
⟨some 40, .ext 1 (.t 31), none⟩,
⟨some 7, .alloc [.int .i64 0, .int .i64 0, .sl 3 true [], .int .i64 0, .sl 3 true [], .sl 1 true [], .sl 1 true [], .sl 1 true [], .sl 5 true [], .sl 1 true [], .sl 3 true []], none⟩,
⟨none, .store 11 (.t 7) (.t 39), none⟩,
⟨some 8, .mov (.t 40), none⟩] [4, 5, 7])
(.seq
(.region none [
⟨some 41, .load (some 11) (.t 7), none⟩,
⟨some 42, .mov (.t 5), none⟩,
⟨some 43, .build [.int .i64 0, .int .i64 0, .sl 3 true [], .int .i64 0, .sl 3 true [], .sl 1 true [], .sl 1 true [], .sl 1 true [], .sl 5 true [], .sl 1 true [], .sl 3 true [], .sl 1 true []] [(0, 11, (.t 41)), (11, 1, (.t 42))], none⟩,
⟨none, .store 12 (.t 4) (.t 43), none⟩] [4])
.ret))))),
[.cell 4 (some 12)]⟩

theorem x36_ok : chkFunc Go.Proofs.Tryz.prog (fun _ => true) x36 36 = true := by decide +kernel

/-- peloton/pelotonlaw13.three -/
def x37 : XFunc := ⟨0,
(.seq
(.region none [
⟨some 0, .alloc [.sl 3 true []], none⟩] [0])
(.seq
(.region none [
⟨some 1, .build [.int .i64 0, .int .i64 0, .int .i64 0] [(0, 1, (.c (.int .i64 1))), (1, 1, (.c (.int .i64 0))), (2, 1, (.c (.int .i64 2)))], none⟩,
⟨some 2, .build [.int .i64 0, .int .i64 0, .int .i64 0] [(0, 1, (.c (.int .i64 2))), (1, 1, (.c (.int .i64 6))), (2, 1, (.c (.int .i64 (-1))))], none⟩,
⟨some 3, .build [.int .i64 0, .int .i64 0, .int .i64 0] [(0, 1, (.c (.int .i64 5))), (1, 1, (.c (.int .i64 0))), (2, 1, (.c (.int .i64 0)))], none⟩,
⟨some 4, .mkrow 3 3 [.int .i64 0, .int .i64 0, .int .i64 0] [(0, (.t 1)), (1, (.t 2)), (2, (.t 3))], none⟩,
⟨some 5, .build [.sl 3 true []] [(0, 1, (.t 4))], none⟩,
⟨none, .store 1 (.t 0) (.t 5), none⟩] [0])
.ret)),
[.cell 0 (some 1)]⟩

theorem x37_ok : chkFunc Go.Proofs.Tryz.prog (fun _ => true) x37 37 = true := by decide +kernel

/-- peloton/pelotonlaw13.at -/
def x38 : XFunc := ⟨1,
(.seq
(.region none [
⟨some 2, .alloc [.int .i64 0, .int .i64 0], none⟩] [0, 2])
(.seq
(.region none [
⟨some 3, .mov (.t 0), none⟩,
⟨some 4, .build [.int .i64 0, .int .i64 0] [(0, 1, (.t 3)), (1, 1, (.c (.int .i64 1)))], none⟩,
⟨none, .store 2 (.t 2) (.t 4), none⟩] [2])
.ret)),
[.cell 2 (some 2)]⟩

theorem x38_ok : chkFunc Go.Proofs.Tryz.prog (fun _ => true) x38 38 = true := by decide +kernel

/-- peloton/pelotonref09.Gone -/
def x39 : XFunc := ⟨2,
(.seq
(.region none [
⟨some 2, .box (.t 0), none⟩,
⟨some 4, .alloc [.int .i64 0, .int .i64 0, .sl 3 true [], .int .i64 0, .sl 3 true [], .sl 1 true [], .sl 1 true [], .sl 1 true [], .sl 5 true [], .sl 1 true [], .sl 3 true []], none⟩] [1, 2, 4])
(.seq
(.region none [
⟨some 7, .load (some 11) (.t 2), none⟩,
⟨some 8, .call .own 12 [(.t 7)], none⟩,
⟨some 5, .alloc [.int .i64 0, .int .i64 0, .sl 3 true [], .int .i64 0, .sl 3 true [], .sl 1 true [], .sl 1 true [], .sl 1 true [], .sl 5 true [], .sl 1 true [], .sl 3 true []], none⟩,
⟨none, .store 11 (.t 5) (.t 8), none⟩] [1, 2, 4, 5])
(.seq
(.region none [
⟨some 9, .fadr 3 (.t 2), none⟩,
⟨some 10, .load (some 2) (.t 9), none⟩,
⟨some 11, .mov (.t 1), none⟩,
⟨some 12, .call .pur 87 [(.t 10), (.t 11)], none⟩,
⟨some 13, .fadr 3 (.t 5), none⟩,
⟨none, .store 2 (.t 13) (.t 12), none⟩] [1, 2, 4, 5])
(.seq
(.seq
(.region none [
⟨some 14, .load (some 11) (.t 2), none⟩,
⟨some 15, .mov (.t 1), none⟩,
⟨some 16, .call .pur 88 [(.t 14), (.t 15)], none⟩,
⟨some 6, .mov (.t 16), none⟩] [2, 4, 5, 6])
(.seq
(.region none [
⟨some 17, .mov (.t 6), none⟩,
⟨some 18, .bin .geq (.t 17) (.c (.int .i64 0)), none⟩] [2, 4, 5, 6, 18])
(.cond (.t 18)
(.seq
(.region (some [0, 1, 0, 4, 0, 28, 60, 124, 255, 511, 1023]) [
⟨some 19, .fadr 5 (.t 2), none⟩,
⟨some 20, .load (some 5) (.t 19), none⟩,
⟨some 21, .fadr 10 (.t 2), none⟩,
⟨some 22, .load none (.t 21), none⟩,
⟨some 23, .mov (.t 6), none⟩,
⟨some 24, .iadr 3 (.t 22) (.t 23), none⟩,
⟨some 25, .fadr 1 (.t 24), none⟩,
⟨some 26, .load (some 2) (.t 25), none⟩,
⟨some 27, .call .pur 89 [(.t 20), (.t 26)], none⟩,
⟨some 28, .fadr 5 (.t 5), none⟩,
⟨none, .store 5 (.t 28) (.t 27), none⟩] [2, 4, 5, 6])
(.region (some [0, 0, 2, 0, 14, 31, 0, 64, 0, 256, 960, 2047, 4095, 8191]) [
⟨some 29, .mkrow 3 0 [.int .i64 0, .int .i64 0, .int .i64 0] [], none⟩,
⟨some 30, .fadr 10 (.t 2), none⟩,
⟨some 31, .load none (.t 30), none⟩,
⟨some 32, .mov (.t 6), none⟩,
⟨some 33, .slc 3 (.t 31) none (some (.t 32)) none, none⟩,
⟨some 34, .append 3 (.t 29) (.t 33), none⟩,
⟨some 35, .fadr 10 (.t 2), none⟩,
⟨some 36, .load none (.t 35), none⟩,
⟨some 37, .mov (.t 6), none⟩,
⟨some 38, .bin .add (.t 37) (.c (.int .i64 1)), none⟩,
⟨some 39, .slc 3 (.t 36) (some (.t 38)) none none, none⟩,
⟨some 40, .append 3 (.t 34) (.t 39), none⟩,
⟨some 41, .fadr 10 (.t 5), none⟩,
⟨none, .store 1 (.t 41) (.t 40), none⟩] [4, 5]))
.skip)))
(.seq
(.region none [
⟨some 42, .load (some 11) (.t 5), none⟩,
⟨none, .store 11 (.t 4) (.t 42), none⟩] [4])
.ret))))),
[.cell 4 (some 11)]⟩

theorem x39_ok : chkFunc Go.Proofs.Tryz.prog (fun _ => true) x39 39 = true := by decide +kernel

/-- peloton/pelotonref03.Same -/
def x41 : XFunc := ⟨2,
(.seq
(.region none [
⟨some 2, .box (.t 0), none⟩,
⟨some 3, .box (.t 1), none⟩,
⟨some 4, .mov (.c (.bool false)), none⟩] [2, 3])
(.seq
(.seq
(.region none [
⟨some 6, .fadr 0 (.t 2), none⟩,
⟨some 7, .load none (.t 6), none⟩,
⟨some 8, .len (.t 7), none⟩,
⟨some 9, .fadr 0 (.t 3), none⟩,
⟨some 10, .load none (.t 9), none⟩,
⟨some 11, .len (.t 10), none⟩,
⟨some 12, .bin .neq (.t 8) (.t 11), none⟩] [2, 3, 12])
(.cond (.t 12)
(.seq
(.region none [
⟨some 4, .mov (.c (.bool false)), none⟩] [4])
.ret)
.skip))
(.seq
(.seq
(.region none [
⟨some 5, .mov (.c (.int .i64 0)), none⟩] [2, 3, 5])
(.block 0
(.loop [(2, none), (3, none), (5, none)]
(.seq
(.seq
(.region none [
⟨some 13, .mov (.t 5), none⟩,
⟨some 14, .fadr 0 (.t 2), none⟩,
⟨some 15, .load none (.t 14), none⟩,
⟨some 16, .len (.t 15), none⟩,
⟨some 17, .bin .lss (.t 13) (.t 16), none⟩] [2, 3, 5, 17])
(.cond (.t 17)
.skip
(.exit 0)))
(.seq
(.block 1
(.seq
(.region (some [0, 1, 0, 7, 15, 0, 32, 0, 224, 480, 1023]) [
⟨some 20, .fadr 0 (.t 2), none⟩,
⟨some 21, .load none (.t 20), none⟩,
⟨some 22, .mov (.t 5), none⟩,
⟨some 23, .iadr 3 (.t 21) (.t 22), none⟩,
⟨some 24, .load (some 3) (.t 23), none⟩,
⟨some 25, .fadr 0 (.t 3), none⟩,
⟨some 26, .load none (.t 25), none⟩,
⟨some 27, .mov (.t 5), none⟩,
⟨some 28, .iadr 3 (.t 26) (.t 27), none⟩,
⟨some 29, .load (some 3) (.t 28), none⟩,
⟨some 30, .eqc 3 true (.t 24) (.t 29), none⟩] [2, 3, 5, 30])
(.cond (.t 30)
(.seq
(.region none [
⟨some 4, .mov (.c (.bool false)), none⟩] [4])
.ret)
.skip)))
(.region none [
⟨some 18, .mov (.t 5), none⟩,
⟨some 19, .bin .add (.t 18) (.c (.int .i64 1)), none⟩,
⟨some 5, .mov (.t 19), none⟩] [2, 3, 5]))))))
(.seq
(.region none [
⟨some 4, .mov (.c (.bool true)), none⟩] [4])
.ret)))),
[.tmp 4]⟩

theorem x41_ok : chkFunc Go.Proofs.Tryz.prog (fun _ => true) x41 41 = true := by decide +kernel

/-- peloton/pelotonref13.Ahead -/
def x42 : XFunc := ⟨4,
(.seq
(.region none [
⟨some 4, .box (.t 0), none⟩,
⟨some 5, .box (.t 1), none⟩,
⟨some 8, .mov (.c (.bool false)), none⟩] [2, 3, 4, 5])
(.seq
(.region (some [0, 1, 0, 0, 12, 31, 63, 0, 128, 0, 0, 1564, 3996, 8092, 0, 32767, 65535]) [
⟨some 9, .fadr 0 (.t 4), none⟩,
⟨some 10, .load none (.t 9), none⟩,
⟨some 11, .load (some 1) (.t 4), none⟩,
⟨some 12, .mov (.t 2), none⟩,
⟨some 13, .call .pur 80 [(.t 11), (.t 12)], none⟩,
⟨some 14, .iadr 3 (.t 10) (.t 13), none⟩,
⟨some 15, .load (some 3) (.t 14), none⟩,
⟨some 16, .fadr 0 (.t 4), none⟩,
⟨some 17, .load none (.t 16), none⟩,
⟨some 18, .load (some 1) (.t 4), none⟩,
⟨some 19, .mov (.t 3), none⟩,
⟨some 20, .call .pur 80 [(.t 18), (.t 19)], none⟩,
⟨some 21, .iadr 3 (.t 17) (.t 20), none⟩,
⟨some 22, .load (some 3) (.t 21), none⟩,
⟨some 23, .load (some 2) (.t 5), none⟩,
⟨some 24, .call .pur 91 [(.t 15), (.t 22), (.t 23)], none⟩,
⟨some 8, .mov (.t 24), none⟩] [8])
.ret)),
[.tmp 8]⟩

theorem x42_ok : chkFunc Go.Proofs.Tryz.prog (fun _ => true) x42 42 = true := by decide +kernel

/-- peloton/pelotonref13.In -/
def x48 : XFunc := ⟨2,
(.seq
(.region none [
⟨some 3, .box (.t 1), none⟩,
⟨some 4, .mov (.c (.bool false)), none⟩] [0, 3])
(.seq
(.seq
(.region none [
⟨some 5, .mov (.c (.int .i64 0)), none⟩] [0, 3, 5])
(.block 0
(.loop [(0, none), (3, none), (5, none)]
(.seq
(.seq
(.region none [
⟨some 6, .mov (.t 5), none⟩,
⟨some 7, .mov (.t 0), none⟩,
⟨some 8, .len (.t 7), none⟩,
⟨some 9, .bin .lss (.t 6) (.t 8), none⟩] [0, 3, 5, 9])
(.cond (.t 9)
.skip
(.exit 0)))
(.seq
(.block 1
(.seq
(.region (some [0, 0, 3, 7, 0, 31]) [
⟨some 12, .mov (.t 0), none⟩,
⟨some 13, .mov (.t 5), none⟩,
⟨some 14, .iadr 2 (.t 12) (.t 13), none⟩,
⟨some 15, .load (some 2) (.t 14), none⟩,
⟨some 16, .load (some 2) (.t 3), none⟩,
⟨some 17, .eqc 2 false (.t 15) (.t 16), none⟩] [0, 3, 5, 17])
(.cond (.t 17)
(.seq
(.region none [
⟨some 4, .mov (.c (.bool true)), none⟩] [4])
.ret)
.skip)))
(.region none [
⟨some 10, .mov (.t 5), none⟩,
⟨some 11, .bin .add (.t 10) (.c (.int .i64 1)), none⟩,
⟨some 5, .mov (.t 11), none⟩] [0, 3, 5]))))))
(.seq
(.region none [
⟨some 4, .mov (.c (.bool false)), none⟩] [4])
.ret))),
[.tmp 4]⟩

theorem x48_ok : chkFunc Go.Proofs.Tryz.prog (fun _ => true) x48 48 = true := by decide +kernel

/-- peloton/pelotonref03.Twin -/
def x51 : XFunc := ⟨1,
(.seq
(.region none [
⟨some 1, .box (.t 0), none⟩,
⟨some 2, .alloc [.sl 3 true []], none⟩] [1, 2])
(.seq
(.region none [
⟨some 3, .mkrow 3 0 [.int .i64 0, .int .i64 0, .int .i64 0] [], none⟩,
⟨some 4, .fadr 0 (.t 1), none⟩,
⟨some 5, .load none (.t 4), none⟩,
⟨some 6, .append 3 (.t 3) (.t 5), none⟩,
⟨some 7, .build [.sl 3 true []] [(0, 1, (.t 6))], none⟩,
⟨none, .store 1 (.t 2) (.t 7), none⟩] [2])
.ret)),
[.cell 2 (some 1)]⟩

theorem x51_ok : chkFunc Go.Proofs.Tryz.prog (fun _ => true) x51 51 = true := by decide +kernel

/-- peloton/pelotonref08.Twin -/
def x52 : XFunc := ⟨1,
(.seq
(.region none [
⟨some 1, .box (.t 0), none⟩,
⟨some 2, .alloc [.int .i64 0, .sl 3 true []], none⟩] [1, 2])
(.seq
(.region (some [0, 1, 0, 0, 8, 28, 63, 127]) [
⟨some 3, .fadr 0 (.t 1), none⟩,
⟨some 4, .load none (.t 3), none⟩,
⟨some 5, .mkrow 3 0 [.int .i64 0, .int .i64 0, .int .i64 0] [], none⟩,
⟨some 6, .fadr 1 (.t 1), none⟩,
⟨some 7, .load none (.t 6), none⟩,
⟨some 8, .append 3 (.t 5) (.t 7), none⟩,
⟨some 9, .build [.int .i64 0, .sl 3 true []] [(0, 1, (.t 4)), (1, 1, (.t 8))], none⟩,
⟨none, .store 2 (.t 2) (.t 9), none⟩] [2])
.ret)),
[.cell 2 (some 2)]⟩

theorem x52_ok : chkFunc Go.Proofs.Tryz.prog (fun _ => true) x52 52 = true := by decide +kernel

/-- peloton/pelotonref07.Twin -/
def x53 : XFunc := ⟨1,
(.seq
(.region none [
⟨some 1, .box (.t 0), none⟩,
⟨some 2, .alloc [.sl 1 true [], .sl 1 true [], .sl 1 true [], .sl 5 true [], .sl 1 true []], none⟩] [1, 2])
(.seq
(.region (some [0, 1, 3, 0, 0, 16, 63, 0, 0, 256, 1023, 2047, 4095]) [
⟨some 3, .fadr 0 (.t 1), none⟩,
⟨some 4, .load (some 3) (.t 3), none⟩,
⟨some 5, .call .own 99 [(.t 4)], none⟩,
⟨some 6, .mkrow 5 0 [.int .i64 0, .int .i64 0, .int .i64 0, .int .i64 0, .int .i64 0] [], none⟩,
⟨some 7, .fadr 3 (.t 1), none⟩,
⟨some 8, .load none (.t 7), none⟩,
⟨some 9, .append 5 (.t 6) (.t 8), none⟩,
⟨some 10, .mkrow 1 0 [.int .i64 0] [], none⟩,
⟨some 11, .fadr 4 (.t 1), none⟩,
⟨some 12, .load none (.t 11), none⟩,
⟨some 13, .append 1 (.t 10) (.t 12), none⟩,
⟨some 14, .build [.sl 1 true [], .sl 1 true [], .sl 1 true [], .sl 5 true [], .sl 1 true []] [(0, 3, (.t 5)), (3, 1, (.t 9)), (4, 1, (.t 13))], none⟩,
⟨none, .store 5 (.t 2) (.t 14), none⟩] [2])
.ret)),
[.cell 2 (some 5)]⟩

theorem x53_ok : chkFunc Go.Proofs.Tryz.prog (fun _ => true) x53 53 = true := by decide +kernel

/-- peloton/clock.Check -/
def x54 : XFunc := ⟨1,
(.seq
(.region none [
⟨some 1, .box (.t 0), none⟩,
⟨some 2, .mov (.c (.int .i64 0)), none⟩] [1])
(.seq
(.seq
(.region (some [0, 1, 3, 0, 8, 31, 0, 64, 255, 0, 512, 2047, 4095, 8191, 0]) [
⟨some 12, .fadr 0 (.t 1), none⟩,
⟨some 13, .load (some 2) (.t 12), none⟩,
⟨some 14, .call .pur 65 [(.t 13)], none⟩,
⟨some 15, .fadr 2 (.t 1), none⟩,
⟨some 16, .load (some 1) (.t 15), none⟩,
⟨some 17, .call .pur 55 [(.t 16)], none⟩,
⟨some 18, .fadr 3 (.t 1), none⟩,
⟨some 19, .load (some 2) (.t 18), none⟩,
⟨some 20, .call .pur 100 [(.t 19)], none⟩,
⟨some 21, .fadr 5 (.t 1), none⟩,
⟨some 22, .load (some 5) (.t 21), none⟩,
⟨some 23, .call .pur 101 [(.t 22)], none⟩,
⟨some 24, .mkrow 1 4 [.int .i64 0] [(0, (.t 14)), (1, (.t 17)), (2, (.t 20)), (3, (.t 23))], none⟩,
⟨some 25, .len (.t 24), none⟩,
⟨some 26, .mov (.c (.int .i64 0)), none⟩] [1, 24, 25, 26])
(.block 0
(.loop [(1, none), (24, none), (25, none), (26, none)]
(.seq
(.region none [
⟨some 27, .bin .lss (.t 26) (.t 25), none⟩] [1, 24, 25, 26, 27])
(.seq
(.cond (.t 27)
.skip
(.exit 0))
(.seq
(.block 1
(.seq
(.region none [
⟨some 28, .iadr 1 (.t 24) (.t 26), none⟩,
⟨some 29, .load none (.t 28), none⟩,
⟨some 4, .mov (.t 29), none⟩] [1, 4, 24, 25, 26])
(.seq
(.region none [
⟨some 30, .mov (.t 4), none⟩,
⟨some 31, .bin .neq (.t 30) (.c (.int .i64 0)), none⟩] [1, 24, 25, 26, 31])
(.cond (.t 31)
(.seq
(.region none [
⟨some 2, .mov (.c (.int .i64 8)), none⟩] [2])
.ret)
.skip))))
(.region none [
⟨some 32, .bin .add (.t 26) (.c (.int .i64 1)), none⟩,
⟨some 26, .mov (.t 32), none⟩] [1, 24, 25, 26])))))))
(.seq
(.seq
(.region none [
⟨some 33, .fadr 5 (.t 1), none⟩,
⟨some 34, .fadr 4 (.t 33), none⟩,
⟨some 35, .load none (.t 34), none⟩,
⟨some 36, .len (.t 35), none⟩,
⟨some 37, .bin .neq (.t 36) (.c (.int .i64 200)), none⟩,
⟨some 38, .mov (.t 37), none⟩,
⟨some 39, .fadr 5 (.t 1), (some (38, false))⟩,
⟨some 40, .fadr 3 (.t 39), (some (38, false))⟩,
⟨some 41, .load none (.t 40), (some (38, false))⟩,
⟨some 42, .len (.t 41), (some (38, false))⟩,
⟨some 43, .fadr 10 (.t 1), (some (38, false))⟩,
⟨some 44, .load none (.t 43), (some (38, false))⟩,
⟨some 45, .len (.t 44), (some (38, false))⟩,
⟨some 46, .bin .neq (.t 42) (.t 45), (some (38, false))⟩,
⟨some 47, .pick (.t 38) (.c (.bool true)) (.t 46), none⟩] [1, 47])
(.cond (.t 47)
(.seq
(.region none [
⟨some 2, .mov (.c (.int .i64 8)), none⟩] [2])
.ret)
.skip))
(.seq
(.region none [
⟨some 48, .fadr 10 (.t 1), none⟩,
⟨some 49, .load none (.t 48), none⟩,
⟨some 5, .mov (.t 49), none⟩] [1, 5])
(.seq
(.seq
(.region none [
⟨some 50, .fadr 3 (.t 1), none⟩,
⟨some 51, .fadr 1 (.t 50), none⟩,
⟨some 52, .load none (.t 51), none⟩,
⟨some 53, .len (.t 52), none⟩,
⟨some 54, .mov (.c (.int .i64 0)), none⟩] [1, 5, 52, 53, 54])
(.block 2
(.loop [(1, none), (5, none), (52, none), (53, none), (54, none)]
(.seq
(.region none [
⟨some 55, .bin .lss (.t 54) (.t 53), none⟩] [1, 5, 52, 53, 54, 55])
(.seq
(.cond (.t 55)
.skip
(.exit 2))
(.seq
(.block 3
(.seq
(.region none [
⟨some 56, .iadr 3 (.t 52) (.t 54), none⟩,
⟨some 57, .load (some 3) (.t 56), none⟩,
⟨some 7, .alloc [.int .i64 0, .int .i64 0, .int .i64 0], none⟩,
⟨none, .store 3 (.t 7) (.t 57), none⟩] [1, 5, 7, 52, 53, 54])
(.seq
(.region none [
⟨some 59, .fadr 2 (.t 1), none⟩,
⟨some 60, .load (some 1) (.t 59), none⟩,
⟨some 61, .fadr 1 (.t 7), none⟩,
⟨some 62, .load (some 2) (.t 61), none⟩,
⟨some 63, .fadr 0 (.t 1), none⟩,
⟨some 64, .load (some 2) (.t 63), none⟩,
⟨some 65, .call .pur 102 [(.t 60), (.t 62), (.t 64)], none⟩,
⟨some 58, .mov (.t 65), none⟩,
⟨some 66, .ext 0 (.t 58), none⟩,
⟨some 67, .ext 1 (.t 58), none⟩,
⟨some 68, .ext 2 (.t 58), none⟩,
⟨some 8, .alloc [.int .i64 0, .int .i64 0], none⟩,
⟨none, .store 2 (.t 8) (.t 66), none⟩,
⟨some 9, .mov (.t 67), none⟩,
⟨some 10, .mov (.t 68), none⟩] [1, 5, 7, 8, 9, 10, 52, 53, 54])
(.seq
(.seq
(.region none [
⟨some 69, .mov (.t 10), none⟩,
⟨some 70, .bin .neq (.t 69) (.c (.int .i64 0)), none⟩] [1, 5, 7, 8, 9, 52, 53, 54, 70])
(.cond (.t 70)
(.seq
(.region none [
⟨some 2, .mov (.c (.int .i64 8)), none⟩] [2])
.ret)
.skip))
(.seq
(.seq
(.region none [
⟨some 71, .mov (.t 9), none⟩,
⟨some 72, .un .not (.t 71), none⟩] [1, 5, 7, 8, 52, 53, 54, 72])
(.cond (.t 72)
(.exit 3)
.skip))
(.seq
(.seq
(.region (some [0, 1, 3, 7, 15, 31, 63, 127, 15, 271, 1023, 2047]) [
⟨some 73, .mov (.t 5), none⟩,
⟨some 74, .len (.t 73), none⟩,
⟨some 75, .bin .eql (.t 74) (.c (.int .i64 0)), none⟩,
⟨some 76, .mov (.t 75), none⟩,
⟨some 77, .mov (.t 5), (some (76, false))⟩,
⟨some 78, .iadr 3 (.t 77) (.c (.int .i64 0)), (some (76, false))⟩,
⟨some 79, .fadr 0 (.t 78), (some (76, false))⟩,
⟨some 80, .load none (.t 79), (some (76, false))⟩,
⟨some 81, .fadr 0 (.t 7), (some (76, false))⟩,
⟨some 82, .load none (.t 81), (some (76, false))⟩,
⟨some 83, .bin .neq (.t 80) (.t 82), (some (76, false))⟩,
⟨some 84, .pick (.t 76) (.c (.bool true)) (.t 83), none⟩] [1, 5, 7, 8, 52, 53, 54, 84])
(.cond (.t 84)
(.seq
(.region none [
⟨some 2, .mov (.c (.int .i64 8)), none⟩] [2])
.ret)
.skip))
(.seq
(.region none [
⟨some 85, .mov (.t 5), none⟩,
⟨some 86, .iadr 3 (.t 85) (.c (.int .i64 0)), none⟩,
⟨some 87, .fadr 1 (.t 86), none⟩,
⟨some 88, .load (some 2) (.t 87), none⟩,
⟨some 11, .alloc [.int .i64 0, .int .i64 0], none⟩,
⟨none, .store 2 (.t 11) (.t 88), none⟩] [1, 5, 7, 8, 11, 52, 53, 54])
(.seq
(.seq
(.region (some [0, 1, 3, 7, 15, 31, 63, 127, 255, 511, 1023, 2047, 511, 4607, 16383, 32767, 65535, 131071, 262143, 524287, 1048575, 2097151, 524287, 4718591, 13107199, 524287, 34078719, 130547711, 264765439, 536870911, 1073741823, 524287, 524287, 4295491583, 524287, 32212779007, 68719476735, 137438953471]) [
⟨some 89, .fadr 0 (.t 11), none⟩,
⟨some 90, .load none (.t 89), none⟩,
⟨some 91, .bin .lss (.t 90) (.c (.int .i64 0)), none⟩,
⟨some 92, .mov (.t 91), none⟩,
⟨some 93, .fadr 0 (.t 11), (some (92, false))⟩,
⟨some 94, .load none (.t 93), (some (92, false))⟩,
⟨some 95, .bin .geq (.t 94) (.c (.int .i64 200)), (some (92, false))⟩,
⟨some 96, .pick (.t 92) (.c (.bool true)) (.t 95), none⟩,
⟨some 97, .mov (.t 96), none⟩,
⟨some 98, .fadr 5 (.t 1), (some (97, false))⟩,
⟨some 99, .fadr 4 (.t 98), (some (97, false))⟩,
⟨some 100, .load none (.t 99), (some (97, false))⟩,
⟨some 101, .fadr 0 (.t 11), (some (97, false))⟩,
⟨some 102, .load none (.t 101), (some (97, false))⟩,
⟨some 103, .iadr 1 (.t 100) (.t 102), (some (97, false))⟩,
⟨some 104, .load none (.t 103), (some (97, false))⟩,
⟨some 105, .bin .lss (.t 104) (.c (.int .i64 0)), (some (97, false))⟩,
⟨some 106, .pick (.t 97) (.c (.bool true)) (.t 105), none⟩,
⟨some 107, .mov (.t 106), none⟩,
⟨some 108, .fadr 5 (.t 1), (some (107, false))⟩,
⟨some 109, .fadr 3 (.t 108), (some (107, false))⟩,
⟨some 110, .load none (.t 109), (some (107, false))⟩,
⟨some 111, .fadr 5 (.t 1), (some (107, false))⟩,
⟨some 112, .fadr 4 (.t 111), (some (107, false))⟩,
⟨some 113, .load none (.t 112), (some (107, false))⟩,
⟨some 114, .fadr 0 (.t 11), (some (107, false))⟩,
⟨some 115, .load none (.t 114), (some (107, false))⟩,
⟨some 116, .iadr 1 (.t 113) (.t 115), (some (107, false))⟩,
⟨some 117, .load none (.t 116), (some (107, false))⟩,
⟨some 118, .iadr 5 (.t 110) (.t 117), (some (107, false))⟩,
⟨some 119, .load (some 5) (.t 118), (some (107, false))⟩,
⟨some 120, .load (some 2) (.t 8), (some (107, false))⟩,
⟨some 121, .fadr 0 (.t 7), (some (107, false))⟩,
⟨some 122, .load none (.t 121), (some (107, false))⟩,
⟨some 123, .load (some 2) (.t 11), (some (107, false))⟩,
⟨some 124, .build [.int .i64 0, .int .i64 0, .int .i64 0, .int .i64 0, .int .i64 0] [(0, 2, (.t 120)), (2, 1, (.t 122)), (3, 2, (.t 123))], (some (107, false))⟩,
⟨some 125, .eqc 5 true (.t 119) (.t 124), (some (107, false))⟩,
⟨some 126, .pick (.t 107) (.c (.bool true)) (.t 125), none⟩] [1, 5, 52, 53, 54, 126])
(.cond (.t 126)
(.seq
(.region none [
⟨some 2, .mov (.c (.int .i64 8)), none⟩] [2])
.ret)
.skip))
(.region none [
⟨some 127, .mov (.t 5), none⟩,
⟨some 128, .slc 3 (.t 127) (some (.c (.int .i64 1))) none none, none⟩,
⟨some 5, .mov (.t 128), none⟩] [1, 5, 52, 53, 54])))))))))
(.region none [
⟨some 129, .bin .add (.t 54) (.c (.int .i64 1)), none⟩,
⟨some 54, .mov (.t 129), none⟩] [1, 5, 52, 53, 54])))))))
(.seq
(.seq
(.region none [
⟨some 130, .mov (.t 5), none⟩,
⟨some 131, .len (.t 130), none⟩,
⟨some 132, .bin .gtr (.t 131) (.c (.int .i64 0)), none⟩] [132])
(.cond (.t 132)
(.seq
(.region none [
⟨some 2, .mov (.c (.int .i64 8)), none⟩] [2])
.ret)
.skip))
(.seq
(.region none [
⟨some 2, .mov (.c (.int .i64 0)), none⟩] [2])
.ret))))))),
[.tmp 2]⟩

theorem x54_ok : chkFunc Go.Proofs.Tryz.prog (fun _ => true) x54 54 = true := by decide +kernel

/-- peloton/field.Check -/
def x55 : XFunc := ⟨1,
(.seq
(.region none [
⟨some 1, .box (.t 0), none⟩,
⟨some 2, .mov (.c (.int .i64 0)), none⟩] [1])
(.seq
(.seq
(.region none [
⟨some 8, .fadr 0 (.t 1), none⟩,
⟨some 9, .load none (.t 8), none⟩,
⟨some 10, .len (.t 9), none⟩,
⟨some 11, .bin .gtr (.t 10) (.c (.int .i64 64)), none⟩] [1, 11])
(.cond (.t 11)
(.seq
(.region none [
⟨some 2, .mov (.c (.int .i64 4)), none⟩] [2])
.ret)
.skip))
(.seq
(.seq
(.region none [
⟨some 12, .fadr 0 (.t 1), none⟩,
⟨some 13, .load none (.t 12), none⟩,
⟨some 14, .len (.t 13), none⟩,
⟨some 15, .mov (.c (.int .i64 0)), none⟩] [1, 13, 14, 15])
(.block 0
(.loop [(1, none), (13, none), (14, none), (15, none)]
(.seq
(.region none [
⟨some 16, .bin .lss (.t 15) (.t 14), none⟩] [1, 13, 14, 15, 16])
(.seq
(.cond (.t 16)
.skip
(.exit 0))
(.seq
(.block 1
(.seq
(.region none [
⟨some 17, .iadr 3 (.t 13) (.t 15), none⟩,
⟨some 18, .load (some 3) (.t 17), none⟩,
⟨some 4, .alloc [.int .i64 0, .int .i64 0, .int .i64 0], none⟩,
⟨none, .store 3 (.t 4) (.t 18), none⟩] [1, 4, 13, 14, 15])
(.seq
(.region none [
⟨some 19, .load (some 3) (.t 4), none⟩,
⟨some 20, .call .pur 103 [(.t 19)], none⟩,
⟨some 5, .mov (.t 20), none⟩] [1, 5, 13, 14, 15])
(.seq
(.region none [
⟨some 21, .mov (.t 5), none⟩,
⟨some 22, .bin .neq (.t 21) (.c (.int .i64 0)), none⟩] [1, 5, 13, 14, 15, 22])
(.cond (.t 22)
(.seq
(.region none [
⟨some 23, .mov (.t 5), none⟩,
⟨some 2, .mov (.t 23), none⟩] [2])
.ret)
.skip)))))
(.region none [
⟨some 24, .bin .add (.t 15) (.c (.int .i64 1)), none⟩,
⟨some 15, .mov (.t 24), none⟩] [1, 13, 14, 15])))))))
(.seq
(.seq
(.region none [
⟨some 25, .fadr 0 (.t 1), none⟩,
⟨some 26, .load none (.t 25), none⟩,
⟨some 27, .len (.t 26), none⟩,
⟨some 28, .mov (.c (.int .i64 0)), none⟩] [1, 26, 27, 28])
(.block 2
(.loop [(1, none), (26, none), (27, none), (28, none)]
(.seq
(.region none [
⟨some 29, .bin .lss (.t 28) (.t 27), none⟩] [1, 26, 27, 28, 29])
(.seq
(.cond (.t 29)
.skip
(.exit 2))
(.seq
(.block 3
(.seq
(.region none [
⟨some 30, .mov (.t 28), none⟩,
⟨some 31, .iadr 3 (.t 26) (.t 28), none⟩,
⟨some 32, .load (some 3) (.t 31), none⟩,
⟨some 7, .alloc [.int .i64 0, .int .i64 0, .int .i64 0], none⟩,
⟨some 6, .mov (.t 30), none⟩,
⟨none, .store 3 (.t 7) (.t 32), none⟩] [1, 6, 7, 26, 27, 28])
(.seq
(.region (some [0, 1, 3, 7, 15, 7, 39, 127, 255, 511, 7, 1031, 4095, 8191]) [
⟨some 33, .mov (.t 6), none⟩,
⟨some 34, .bin .gtr (.t 33) (.c (.int .i64 0)), none⟩,
⟨some 35, .mov (.t 34), none⟩,
⟨some 36, .fadr 0 (.t 1), (some (35, true))⟩,
⟨some 37, .load none (.t 36), (some (35, true))⟩,
⟨some 38, .mov (.t 6), (some (35, true))⟩,
⟨some 39, .bin .sub (.t 38) (.c (.int .i64 1)), (some (35, true))⟩,
⟨some 40, .iadr 3 (.t 37) (.t 39), (some (35, true))⟩,
⟨some 41, .fadr 0 (.t 40), (some (35, true))⟩,
⟨some 42, .load none (.t 41), (some (35, true))⟩,
⟨some 43, .fadr 0 (.t 7), (some (35, true))⟩,
⟨some 44, .load none (.t 43), (some (35, true))⟩,
⟨some 45, .bin .geq (.t 42) (.t 44), (some (35, true))⟩,
⟨some 46, .pick (.t 35) (.t 45) (.c (.bool false)), none⟩] [1, 26, 27, 28, 46])
(.cond (.t 46)
(.seq
(.region none [
⟨some 2, .mov (.c (.int .i64 32)), none⟩] [2])
.ret)
.skip))))
(.region none [
⟨some 47, .bin .add (.t 28) (.c (.int .i64 1)), none⟩,
⟨some 28, .mov (.t 47), none⟩] [1, 26, 27, 28])))))))
(.seq
(.region none [
⟨some 2, .mov (.c (.int .i64 0)), none⟩] [2])
.ret))))),
[.tmp 2]⟩

theorem x55_ok : chkFunc Go.Proofs.Tryz.prog (fun _ => true) x55 55 = true := by decide +kernel

/-- slices.Contains[[]peloton/api.Cert,peloton/api.Cert] -/
def x56 : XFunc := ⟨2,
(.seq
(.region none [
⟨some 3, .box (.t 1), none⟩,
⟨some 4, .mov (.c (.bool false)), none⟩] [0, 3])
(.seq
(.region none [
⟨some 5, .mov (.t 0), none⟩,
⟨some 6, .load (some 2) (.t 3), none⟩,
⟨some 7, .call .pur 104 [(.t 5), (.t 6)], none⟩,
⟨some 8, .bin .geq (.t 7) (.c (.int .i64 0)), none⟩,
⟨some 4, .mov (.t 8), none⟩] [4])
.ret)),
[.tmp 4]⟩

theorem x56_ok : chkFunc Go.Proofs.Tryz.prog (fun _ => true) x56 56 = true := by decide +kernel

/-- peloton/field.Find -/
def x57 : XFunc := ⟨2,
(.seq
(.region none [
⟨some 2, .box (.t 0), none⟩,
⟨some 4, .alloc [.int .i64 0, .int .i64 0, .int .i64 0], none⟩,
⟨some 5, .mov (.c (.int .i64 0)), none⟩] [1, 2, 4])
(.seq
(.region none [
⟨some 9, .load (some 1) (.t 2), none⟩,
⟨some 10, .mov (.t 1), none⟩,
⟨some 11, .call .pur 105 [(.t 9), (.t 10)], none⟩,
⟨some 8, .mov (.t 11), none⟩,
⟨some 12, .ext 0 (.t 8), none⟩,
⟨some 13, .ext 1 (.t 8), none⟩,
⟨some 6, .mov (.t 12), none⟩,
⟨some 7, .mov (.t 13), none⟩] [2, 4, 6, 7])
(.seq
(.seq
(.region none [
⟨some 14, .mov (.t 7), none⟩,
⟨some 15, .bin .neq (.t 14) (.c (.int .i64 0)), none⟩] [2, 4, 6, 7, 15])
(.cond (.t 15)
(.seq
(.region none [
⟨some 16, .build [.int .i64 0, .int .i64 0, .int .i64 0] [], none⟩,
⟨some 17, .mov (.t 7), none⟩,
⟨none, .store 3 (.t 4) (.t 16), none⟩,
⟨some 5, .mov (.t 17), none⟩] [4, 5])
.ret)
.skip))
(.seq
(.region none [
⟨some 18, .fadr 0 (.t 2), none⟩,
⟨some 19, .load none (.t 18), none⟩,
⟨some 20, .mov (.t 6), none⟩,
⟨some 21, .iadr 3 (.t 19) (.t 20), none⟩,
⟨some 22, .load (some 3) (.t 21), none⟩,
⟨none, .store 3 (.t 4) (.t 22), none⟩,
⟨some 5, .mov (.c (.int .i64 0)), none⟩] [4, 5])
.ret)))),
[.cell 4 (some 3), .tmp 5]⟩

theorem x57_ok : chkFunc Go.Proofs.Tryz.prog (fun _ => true) x57 57 = true := by decide +kernel

/-- peloton/kheap.renew -/
def x58 : XFunc := ⟨3,
(.seq
(.region none [
⟨some 3, .box (.t 0), none⟩,
⟨some 4, .box (.t 1), none⟩,
⟨some 6, .alloc [.int .i64 0, .int .i64 0, .sl 3 true [], .int .i64 0, .sl 3 true [], .sl 1 true [], .sl 1 true [], .sl 1 true [], .sl 5 true [], .sl 1 true [], .sl 3 true []], none⟩,
⟨some 7, .mov (.c (.int .i64 0)), none⟩] [2, 3, 4, 6])
(.seq
(.seq
(.region none [
⟨some 13, .fadr 3 (.t 3), none⟩,
⟨some 14, .fadr 1 (.t 13), none⟩,
⟨some 15, .load none (.t 14), none⟩,
⟨some 16, .len (.t 15), none⟩,
⟨some 17, .mov (.c (.int .i64 0)), none⟩] [2, 3, 4, 6, 15, 16, 17])
(.block 0
(.loop [(2, none), (3, none), (4, none), (6, none), (15, none), (16, none), (17, none)]
(.seq
(.region none [
⟨some 18, .bin .lss (.t 17) (.t 16), none⟩] [2, 3, 4, 6, 15, 16, 17, 18])
(.seq
(.cond (.t 18)
.skip
(.exit 0))
(.seq
(.block 1
(.seq
(.region none [
⟨some 19, .iadr 3 (.t 15) (.t 17), none⟩,
⟨some 20, .load (some 3) (.t 19), none⟩,
⟨some 9, .alloc [.int .i64 0, .int .i64 0, .int .i64 0], none⟩,
⟨none, .store 3 (.t 9) (.t 20), none⟩] [2, 3, 4, 6, 9, 15, 16, 17])
(.seq
(.region none [
⟨some 21, .mov (.t 2), none⟩,
⟨some 22, .fadr 1 (.t 9), none⟩,
⟨some 23, .load (some 2) (.t 22), none⟩,
⟨some 24, .call .pur 56 [(.t 21), (.t 23)], none⟩,
⟨some 25, .un .not (.t 24), none⟩] [2, 3, 4, 6, 9, 15, 16, 17, 25])
(.cond (.t 25)
(.region none [
⟨some 27, .load (some 11) (.t 3), none⟩,
⟨some 28, .fadr 0 (.t 9), none⟩,
⟨some 29, .load none (.t 28), none⟩,
⟨some 30, .call .pur 106 [(.t 27), (.t 29)], none⟩,
⟨some 26, .mov (.t 30), none⟩,
⟨some 31, .ext 0 (.t 26), none⟩,
⟨some 32, .ext 1 (.t 26), none⟩,
⟨none, .store 11 (.t 3) (.t 31), none⟩] [2, 3, 4, 6, 15, 16, 17])
.skip))))
(.region none [
⟨some 33, .bin .add (.t 17) (.c (.int .i64 1)), none⟩,
⟨some 17, .mov (.t 33), none⟩] [2, 3, 4, 6, 15, 16, 17])))))))
(.seq
(.region none [
⟨some 10, .mov (.c (.int .i64 0)), none⟩] [2, 3, 4, 6])
(.seq
(.seq
(.region none [
⟨some 34, .fadr 2 (.t 3), none⟩,
⟨some 35, .fadr 0 (.t 34), none⟩,
⟨some 36, .load none (.t 35), none⟩,
⟨some 37, .fadr 0 (.t 4), none⟩,
⟨some 38, .load none (.t 37), none⟩,
⟨some 39, .call .pur 107 [(.t 36), (.t 38)], none⟩,
⟨some 40, .un .not (.t 39), none⟩] [2, 3, 4, 6, 40])
(.cond (.t 40)
(.seq
(.region none [
⟨some 42, .load (some 11) (.t 3), none⟩,
⟨some 43, .load (some 1) (.t 4), none⟩,
⟨some 44, .call .pur 108 [(.t 42), (.t 43)], none⟩,
⟨some 41, .mov (.t 44), none⟩,
⟨some 45, .ext 0 (.t 41), none⟩,
⟨some 46, .ext 1 (.t 41), none⟩,
⟨none, .store 11 (.t 3) (.t 45), none⟩,
⟨some 10, .mov (.t 46), none⟩] [2, 3, 6, 10])
(.seq
(.region none [
⟨some 47, .mov (.t 10), none⟩,
⟨some 48, .bin .neq (.t 47) (.c (.int .i64 0)), none⟩] [2, 3, 6, 10, 48])
(.cond (.t 48)
(.seq
(.region none [
⟨some 49, .build [.int .i64 0, .int .i64 0, .sl 3 true [], .int .i64 0, .sl 3 true [], .sl 1 true [], .sl 1 true [], .sl 1 true [], .sl 5 true [], .sl 1 true [], .sl 3 true []] [], none⟩,
⟨some 50, .mov (.t 10), none⟩,
⟨none, .store 11 (.t 6) (.t 49), none⟩,
⟨some 7, .mov (.t 50), none⟩] [6, 7])
.ret)
.skip)))
.skip))
(.seq
(.seq
(.region none [
⟨some 51, .mov (.t 2), none⟩,
⟨some 52, .len (.t 51), none⟩,
⟨some 53, .mov (.c (.int .i64 0)), none⟩] [3, 6, 51, 52, 53])
(.block 2
(.loop [(3, none), (6, none), (51, none), (52, none), (53, none)]
(.seq
(.region none [
⟨some 54, .bin .lss (.t 53) (.t 52), none⟩] [3, 6, 51, 52, 53, 54])
(.seq
(.cond (.t 54)
.skip
(.exit 2))
(.seq
(.block 3
(.seq
(.region none [
⟨some 55, .iadr 2 (.t 51) (.t 53), none⟩,
⟨some 56, .load (some 2) (.t 55), none⟩,
⟨some 12, .alloc [.int .i64 0, .int .i64 0], none⟩,
⟨none, .store 2 (.t 12) (.t 56), none⟩] [3, 6, 12, 51, 52, 53])
(.seq
(.seq
(.region none [
⟨some 57, .fadr 3 (.t 3), none⟩,
⟨some 58, .fadr 1 (.t 57), none⟩,
⟨some 59, .load none (.t 58), none⟩,
⟨some 60, .mkf 110 [] [(.t 12)], none⟩,
⟨some 61, .call .pur 109 [(.t 59), (.t 60)], none⟩] [3, 6, 12, 51, 52, 53, 61])
(.cond (.t 61)
(.exit 3)
.skip))
(.seq
(.region none [
⟨some 63, .load (some 11) (.t 3), none⟩,
⟨some 64, .load (some 2) (.t 12), none⟩,
⟨some 65, .call .pur 111 [(.t 63), (.t 64)], none⟩,
⟨some 62, .mov (.t 65), none⟩,
⟨some 66, .ext 0 (.t 62), none⟩,
⟨some 67, .ext 1 (.t 62), none⟩,
⟨some 68, .ext 2 (.t 62), none⟩,
⟨none, .store 11 (.t 3) (.t 66), none⟩,
⟨some 10, .mov (.t 68), none⟩] [3, 6, 10, 51, 52, 53])
(.seq
(.region none [
⟨some 69, .mov (.t 10), none⟩,
⟨some 70, .bin .neq (.t 69) (.c (.int .i64 0)), none⟩] [3, 6, 10, 51, 52, 53, 70])
(.cond (.t 70)
(.seq
(.region none [
⟨some 71, .build [.int .i64 0, .int .i64 0, .sl 3 true [], .int .i64 0, .sl 3 true [], .sl 1 true [], .sl 1 true [], .sl 1 true [], .sl 5 true [], .sl 1 true [], .sl 3 true []] [], none⟩,
⟨some 72, .mov (.t 10), none⟩,
⟨none, .store 11 (.t 6) (.t 71), none⟩,
⟨some 7, .mov (.t 72), none⟩] [6, 7])
.ret)
.skip))))))
(.region none [
⟨some 73, .bin .add (.t 53) (.c (.int .i64 1)), none⟩,
⟨some 53, .mov (.t 73), none⟩] [3, 6, 51, 52, 53])))))))
(.seq
(.region none [
⟨some 74, .load (some 11) (.t 3), none⟩,
⟨none, .store 11 (.t 6) (.t 74), none⟩,
⟨some 7, .mov (.c (.int .i64 0)), none⟩] [6, 7])
.ret)))))),
[.cell 6 (some 11), .tmp 7]⟩

theorem x58_ok : chkFunc Go.Proofs.Tryz.prog (fun _ => true) x58 58 = true := by decide +kernel

/-- peloton/kheap.twin -/
def x59 : XFunc := ⟨1,
(.seq
(.region none [
⟨some 1, .box (.t 0), none⟩,
⟨some 2, .alloc [.int .i64 0, .int .i64 0, .sl 3 true [], .int .i64 0, .sl 3 true [], .sl 1 true [], .sl 1 true [], .sl 1 true [], .sl 5 true [], .sl 1 true [], .sl 3 true []], none⟩] [1, 2])
(.seq
(.region none [
⟨some 4, .fadr 2 (.t 1), none⟩,
⟨some 5, .fadr 0 (.t 4), none⟩,
⟨some 6, .load none (.t 5), none⟩,
⟨some 7, .call .pur 112 [(.t 6)], none⟩,
⟨some 8, .fadr 2 (.t 1), none⟩,
⟨some 9, .fadr 0 (.t 8), none⟩,
⟨none, .store 1 (.t 9) (.t 7), none⟩] [1, 2])
(.seq
(.region none [
⟨some 10, .fadr 3 (.t 1), none⟩,
⟨some 11, .fadr 1 (.t 10), none⟩,
⟨some 12, .load none (.t 11), none⟩,
⟨some 13, .call .pur 113 [(.t 12)], none⟩,
⟨some 14, .fadr 3 (.t 1), none⟩,
⟨some 15, .fadr 1 (.t 14), none⟩,
⟨none, .store 1 (.t 15) (.t 13), none⟩] [1, 2])
(.seq
(.region none [
⟨some 16, .fadr 10 (.t 1), none⟩,
⟨some 17, .load none (.t 16), none⟩,
⟨some 18, .call .pur 114 [(.t 17)], none⟩,
⟨some 19, .fadr 10 (.t 1), none⟩,
⟨none, .store 1 (.t 19) (.t 18), none⟩] [1, 2])
(.seq
(.region none [
⟨some 20, .fadr 5 (.t 1), none⟩,
⟨some 3, .mov (.t 20), none⟩] [1, 2, 3])
(.seq
(.region (some [0, 0, 0, 4, 12, 28, 60, 0, 128, 384, 896, 2044, 4093, 8189, 16381, 32767, 65535, 131071]) [
⟨some 21, .mov (.t 3), none⟩,
⟨some 22, .mov (.t 3), none⟩,
⟨some 23, .mov (.t 3), none⟩,
⟨some 24, .nilc (.t 23), none⟩,
⟨some 25, .fadr 3 (.t 24), none⟩,
⟨some 26, .load none (.t 25), none⟩,
⟨some 27, .call .pur 115 [(.t 26)], none⟩,
⟨some 28, .mov (.t 3), none⟩,
⟨some 29, .nilc (.t 28), none⟩,
⟨some 30, .fadr 4 (.t 29), none⟩,
⟨some 31, .load none (.t 30), none⟩,
⟨some 32, .call .pur 69 [(.t 31)], none⟩,
⟨some 33, .nilc (.t 21), none⟩,
⟨some 34, .fadr 3 (.t 33), none⟩,
⟨none, .store 1 (.t 34) (.t 27), none⟩,
⟨some 35, .nilc (.t 22), none⟩,
⟨some 36, .fadr 4 (.t 35), none⟩,
⟨none, .store 1 (.t 36) (.t 32), none⟩] [1, 2, 3])
(.seq
(.region (some [0, 0, 0, 0, 8, 24, 56, 120, 248, 0, 512, 1536, 3584, 7680, 16376, 0, 32768, 98304, 229376, 491520, 1048568, 2097145, 4194297, 8388601, 16777209, 33554427, 67108859, 134217723, 268435451, 536870911, 1073741823, 2147483647, 4294967295]) [
⟨some 37, .mov (.t 3), none⟩,
⟨some 38, .mov (.t 3), none⟩,
⟨some 39, .mov (.t 3), none⟩,
⟨some 40, .mov (.t 3), none⟩,
⟨some 41, .nilc (.t 40), none⟩,
⟨some 42, .fadr 0 (.t 41), none⟩,
⟨some 43, .fadr 0 (.t 42), none⟩,
⟨some 44, .load none (.t 43), none⟩,
⟨some 45, .call .pur 69 [(.t 44)], none⟩,
⟨some 46, .mov (.t 3), none⟩,
⟨some 47, .nilc (.t 46), none⟩,
⟨some 48, .fadr 0 (.t 47), none⟩,
⟨some 49, .fadr 1 (.t 48), none⟩,
⟨some 50, .load none (.t 49), none⟩,
⟨some 51, .call .pur 116 [(.t 50)], none⟩,
⟨some 52, .mov (.t 3), none⟩,
⟨some 53, .nilc (.t 52), none⟩,
⟨some 54, .fadr 0 (.t 53), none⟩,
⟨some 55, .fadr 2 (.t 54), none⟩,
⟨some 56, .load none (.t 55), none⟩,
⟨some 57, .call .pur 69 [(.t 56)], none⟩,
⟨some 58, .nilc (.t 37), none⟩,
⟨some 59, .fadr 0 (.t 58), none⟩,
⟨some 60, .fadr 0 (.t 59), none⟩,
⟨none, .store 1 (.t 60) (.t 45), none⟩,
⟨some 61, .nilc (.t 38), none⟩,
⟨some 62, .fadr 0 (.t 61), none⟩,
⟨some 63, .fadr 1 (.t 62), none⟩,
⟨none, .store 1 (.t 63) (.t 51), none⟩,
⟨some 64, .nilc (.t 39), none⟩,
⟨some 65, .fadr 0 (.t 64), none⟩,
⟨some 66, .fadr 2 (.t 65), none⟩,
⟨none, .store 1 (.t 66) (.t 57), none⟩] [1, 2])
(.seq
(.region none [
⟨some 67, .load (some 11) (.t 1), none⟩,
⟨none, .store 11 (.t 2) (.t 67), none⟩] [2])
.ret)))))))),
[.cell 2 (some 11)]⟩

theorem x59_ok : chkFunc Go.Proofs.Tryz.prog (fun _ => true) x59 59 = true := by decide +kernel

/-- peloton/pelotonref13.Renewed -/
def x62 : XFunc := ⟨3,
(.seq
(.region none [
⟨some 3, .box (.t 0), none⟩,
⟨some 4, .box (.t 1), none⟩,
⟨some 6, .alloc [.int .i64 0, .int .i64 0, .sl 3 true [], .int .i64 0, .sl 3 true [], .sl 1 true [], .sl 1 true [], .sl 1 true [], .sl 5 true [], .sl 1 true [], .sl 3 true []], none⟩,
⟨some 7, .mov (.c (.int .i64 0)), none⟩] [2, 3, 4, 6])
(.seq
(.region none [
⟨some 16, .load (some 11) (.t 3), none⟩,
⟨some 17, .call .own 12 [(.t 16)], none⟩,
⟨some 8, .alloc [.int .i64 0, .int .i64 0, .sl 3 true [], .int .i64 0, .sl 3 true [], .sl 1 true [], .sl 1 true [], .sl 1 true [], .sl 5 true [], .sl 1 true [], .sl 3 true []], none⟩,
⟨none, .store 11 (.t 8) (.t 17), none⟩] [2, 3, 4, 6, 8])
(.seq
(.seq
(.region none [
⟨some 9, .mov (.c (.int .i64 0)), none⟩] [2, 3, 4, 6, 8, 9])
(.block 0
(.loop [(2, none), (3, none), (4, none), (6, none), (8, none), (9, none)]
(.seq
(.seq
(.region none [
⟨some 18, .mov (.t 9), none⟩,
⟨some 19, .fadr 3 (.t 3), none⟩,
⟨some 20, .fadr 1 (.t 19), none⟩,
⟨some 21, .load none (.t 20), none⟩,
⟨some 22, .len (.t 21), none⟩,
⟨some 23, .bin .lss (.t 18) (.t 22), none⟩] [2, 3, 4, 6, 8, 9, 23])
(.cond (.t 23)
.skip
(.exit 0)))
(.seq
(.block 1
(.seq
(.region none [
⟨some 26, .mov (.t 2), none⟩,
⟨some 27, .fadr 3 (.t 3), none⟩,
⟨some 28, .fadr 1 (.t 27), none⟩,
⟨some 29, .load none (.t 28), none⟩,
⟨some 30, .mov (.t 9), none⟩,
⟨some 31, .iadr 3 (.t 29) (.t 30), none⟩,
⟨some 32, .fadr 1 (.t 31), none⟩,
⟨some 33, .load (some 2) (.t 32), none⟩,
⟨some 34, .call .pur 48 [(.t 26), (.t 33)], none⟩,
⟨some 35, .un .not (.t 34), none⟩] [2, 3, 4, 6, 8, 9, 35])
(.cond (.t 35)
(.region (some [0, 0, 2, 6, 0, 30, 62, 126, 255, 511]) [
⟨some 36, .load (some 11) (.t 8), none⟩,
⟨some 37, .fadr 3 (.t 3), none⟩,
⟨some 38, .fadr 1 (.t 37), none⟩,
⟨some 39, .load none (.t 38), none⟩,
⟨some 40, .mov (.t 9), none⟩,
⟨some 41, .iadr 3 (.t 39) (.t 40), none⟩,
⟨some 42, .fadr 0 (.t 41), none⟩,
⟨some 43, .load none (.t 42), none⟩,
⟨some 44, .call .pur 39 [(.t 36), (.t 43)], none⟩,
⟨none, .store 11 (.t 8) (.t 44), none⟩] [2, 3, 4, 6, 8, 9])
.skip)))
(.region none [
⟨some 24, .mov (.t 9), none⟩,
⟨some 25, .bin .add (.t 24) (.c (.int .i64 1)), none⟩,
⟨some 9, .mov (.t 25), none⟩] [2, 3, 4, 6, 8, 9]))))))
(.seq
(.seq
(.region none [
⟨some 45, .fadr 2 (.t 8), none⟩,
⟨some 46, .load (some 1) (.t 45), none⟩,
⟨some 47, .load (some 1) (.t 4), none⟩,
⟨some 48, .call .pur 41 [(.t 46), (.t 47)], none⟩,
⟨some 49, .un .not (.t 48), none⟩] [2, 4, 6, 8, 49])
(.cond (.t 49)
(.seq
(.region none [
⟨some 51, .load (some 11) (.t 8), none⟩,
⟨some 52, .load (some 1) (.t 4), none⟩,
⟨some 53, .call .pur 123 [(.t 51), (.t 52)], none⟩,
⟨some 50, .mov (.t 53), none⟩,
⟨some 54, .ext 0 (.t 50), none⟩,
⟨some 55, .ext 1 (.t 50), none⟩,
⟨some 10, .alloc [.int .i64 0, .int .i64 0, .sl 3 true [], .int .i64 0, .sl 3 true [], .sl 1 true [], .sl 1 true [], .sl 1 true [], .sl 5 true [], .sl 1 true [], .sl 3 true []], none⟩,
⟨none, .store 11 (.t 10) (.t 54), none⟩,
⟨some 11, .mov (.t 55), none⟩] [2, 6, 8, 10, 11])
(.seq
(.seq
(.region none [
⟨some 56, .mov (.t 11), none⟩,
⟨some 57, .bin .neq (.t 56) (.c (.int .i64 0)), none⟩] [2, 6, 8, 10, 11, 57])
(.cond (.t 57)
(.seq
(.region none [
⟨some 58, .build [.int .i64 0, .int .i64 0, .sl 3 true [], .int .i64 0, .sl 3 true [], .sl 1 true [], .sl 1 true [], .sl 1 true [], .sl 5 true [], .sl 1 true [], .sl 3 true []] [], none⟩,
⟨some 59, .mov (.t 11), none⟩,
⟨none, .store 11 (.t 6) (.t 58), none⟩,
⟨some 7, .mov (.t 59), none⟩] [6, 7])
.ret)
.skip))
(.region none [
⟨some 60, .load (some 11) (.t 10), none⟩,
⟨none, .store 11 (.t 8) (.t 60), none⟩] [2, 6, 8])))
.skip))
(.seq
(.seq
(.region none [
⟨some 12, .mov (.c (.int .i64 0)), none⟩] [2, 6, 8, 12])
(.block 2
(.loop [(2, none), (6, none), (8, none), (12, none)]
(.seq
(.seq
(.region none [
⟨some 61, .mov (.t 12), none⟩,
⟨some 62, .mov (.t 2), none⟩,
⟨some 63, .len (.t 62), none⟩,
⟨some 64, .bin .lss (.t 61) (.t 63), none⟩] [2, 6, 8, 12, 64])
(.cond (.t 64)
.skip
(.exit 2)))
(.seq
(.block 3
(.seq
(.seq
(.region (some [0, 1, 0, 0, 12, 28, 63]) [
⟨some 67, .fadr 3 (.t 8), none⟩,
⟨some 68, .load (some 2) (.t 67), none⟩,
⟨some 69, .mov (.t 2), none⟩,
⟨some 70, .mov (.t 12), none⟩,
⟨some 71, .iadr 2 (.t 69) (.t 70), none⟩,
⟨some 72, .load (some 2) (.t 71), none⟩,
⟨some 73, .call .pur 124 [(.t 68), (.t 72)], none⟩] [2, 6, 8, 12, 73])
(.cond (.t 73)
(.exit 3)
.skip))
(.seq
(.region (some [0, 0, 0, 6, 14, 31, 63, 127, 127, 127, 0, 1279, 3583, 8191]) [
⟨some 75, .load (some 11) (.t 8), none⟩,
⟨some 76, .mov (.t 2), none⟩,
⟨some 77, .mov (.t 12), none⟩,
⟨some 78, .iadr 2 (.t 76) (.t 77), none⟩,
⟨some 79, .load (some 2) (.t 78), none⟩,
⟨some 80, .call .pur 125 [(.t 75), (.t 79)], none⟩,
⟨some 74, .mov (.t 80), none⟩,
⟨some 81, .ext 0 (.t 74), none⟩,
⟨some 82, .ext 1 (.t 74), none⟩,
⟨some 83, .ext 2 (.t 74), none⟩,
⟨some 13, .alloc [.int .i64 0, .int .i64 0, .sl 3 true [], .int .i64 0, .sl 3 true [], .sl 1 true [], .sl 1 true [], .sl 1 true [], .sl 5 true [], .sl 1 true [], .sl 3 true []], none⟩,
⟨none, .store 11 (.t 13) (.t 81), none⟩,
⟨some 14, .mov (.t 82), none⟩,
⟨some 15, .mov (.t 83), none⟩] [2, 6, 8, 12, 13, 15])
(.seq
(.seq
(.region none [
⟨some 84, .mov (.t 15), none⟩,
⟨some 85, .bin .neq (.t 84) (.c (.int .i64 0)), none⟩] [2, 6, 8, 12, 13, 15, 85])
(.cond (.t 85)
(.seq
(.region none [
⟨some 86, .build [.int .i64 0, .int .i64 0, .sl 3 true [], .int .i64 0, .sl 3 true [], .sl 1 true [], .sl 1 true [], .sl 1 true [], .sl 5 true [], .sl 1 true [], .sl 3 true []] [], none⟩,
⟨some 87, .mov (.t 15), none⟩,
⟨none, .store 11 (.t 6) (.t 86), none⟩,
⟨some 7, .mov (.t 87), none⟩] [6, 7])
.ret)
.skip))
(.region none [
⟨some 88, .load (some 11) (.t 13), none⟩,
⟨none, .store 11 (.t 8) (.t 88), none⟩] [2, 6, 8, 12])))))
(.region none [
⟨some 65, .mov (.t 12), none⟩,
⟨some 66, .bin .add (.t 65) (.c (.int .i64 1)), none⟩,
⟨some 12, .mov (.t 66), none⟩] [2, 6, 8, 12]))))))
(.seq
(.region none [
⟨some 89, .load (some 11) (.t 8), none⟩,
⟨none, .store 11 (.t 6) (.t 89), none⟩,
⟨some 7, .mov (.c (.int .i64 0)), none⟩] [6, 7])
.ret)))))),
[.cell 6 (some 11), .tmp 7]⟩

theorem x62_ok : chkFunc Go.Proofs.Tryz.prog (fun _ => true) x62 62 = true := by decide +kernel

/-- peloton/ratio.Check -/
def x65 : XFunc := ⟨1,
(.seq
(.region none [
⟨some 1, .box (.t 0), none⟩,
⟨some 2, .mov (.c (.int .i64 0)), none⟩] [1])
(.seq
(.seq
(.region (some [0, 1, 3, 7, 15, 31, 63, 127, 255, 511, 1023, 2047, 511, 4607, 12799, 32767, 65535, 131071]) [
⟨some 3, .fadr 1 (.t 1), none⟩,
⟨some 4, .load none (.t 3), none⟩,
⟨some 5, .bin .lss (.t 4) (.c (.int .i64 1)), none⟩,
⟨some 6, .mov (.t 5), none⟩,
⟨some 7, .fadr 0 (.t 1), (some (6, false))⟩,
⟨some 8, .load none (.t 7), (some (6, false))⟩,
⟨some 9, .bin .eql (.t 8) (.c (.int .i64 (-9223372036854775808))), (some (6, false))⟩,
⟨some 10, .pick (.t 6) (.c (.bool true)) (.t 9), none⟩,
⟨some 11, .mov (.t 10), none⟩,
⟨some 12, .fadr 1 (.t 1), (some (11, false))⟩,
⟨some 13, .load none (.t 12), (some (11, false))⟩,
⟨some 14, .conv .u64 (.t 13), (some (11, false))⟩,
⟨some 15, .fadr 0 (.t 1), (some (11, false))⟩,
⟨some 16, .load none (.t 15), (some (11, false))⟩,
⟨some 17, .call .pur 129 [(.t 16)], (some (11, false))⟩,
⟨some 18, .call .pur 128 [(.t 14), (.t 17)], (some (11, false))⟩,
⟨some 19, .bin .gtr (.t 18) (.c (.int .u64 1)), (some (11, false))⟩,
⟨some 20, .pick (.t 11) (.c (.bool true)) (.t 19), none⟩] [20])
(.cond (.t 20)
(.seq
(.region none [
⟨some 2, .mov (.c (.int .i64 8)), none⟩] [2])
.ret)
.skip))
(.seq
(.region none [
⟨some 2, .mov (.c (.int .i64 0)), none⟩] [2])
.ret))),
[.tmp 2]⟩

theorem x65_ok : chkFunc Go.Proofs.Tryz.prog (fun _ => true) x65 65 = true := by decide +kernel

/-- peloton/ratio.Cmp -/
def x66 : XFunc := ⟨2,
(.seq
(.region none [
⟨some 2, .box (.t 0), none⟩,
⟨some 3, .box (.t 1), none⟩,
⟨some 4, .mov (.c (.int .i64 0)), none⟩,
⟨some 5, .mov (.c (.int .i64 0)), none⟩] [2, 3])
(.seq
(.seq
(.region none [
⟨some 8, .load (some 2) (.t 2), none⟩,
⟨some 9, .load (some 2) (.t 3), none⟩,
⟨some 10, .call .pur 130 [(.t 8), (.t 9)], none⟩,
⟨some 6, .mov (.t 10), none⟩] [2, 3, 6])
(.seq
(.region none [
⟨some 11, .mov (.t 6), none⟩,
⟨some 12, .bin .neq (.t 11) (.c (.int .i64 0)), none⟩] [2, 3, 6, 12])
(.cond (.t 12)
(.seq
(.region none [
⟨some 13, .mov (.t 6), none⟩,
⟨some 4, .mov (.c (.int .i64 0)), none⟩,
⟨some 5, .mov (.t 13), none⟩] [4, 5])
.ret)
.skip)))
(.seq
(.seq
(.region none [
⟨some 14, .fadr 0 (.t 2), none⟩,
⟨some 15, .load none (.t 14), none⟩,
⟨some 16, .bin .lss (.t 15) (.c (.int .i64 0)), none⟩,
⟨some 17, .fadr 0 (.t 3), none⟩,
⟨some 18, .load none (.t 17), none⟩,
⟨some 19, .bin .lss (.t 18) (.c (.int .i64 0)), none⟩,
⟨some 20, .binb true (.t 16) (.t 19), none⟩] [2, 3, 20])
(.cond (.t 20)
(.seq
(.region none [
⟨some 21, .fadr 0 (.t 2), none⟩,
⟨some 22, .load none (.t 21), none⟩,
⟨some 23, .fadr 0 (.t 3), none⟩,
⟨some 24, .load none (.t 23), none⟩,
⟨some 25, .call .pur 131 [(.t 22), (.t 24)], none⟩,
⟨some 4, .mov (.t 25), none⟩,
⟨some 5, .mov (.c (.int .i64 0)), none⟩] [4, 5])
.ret)
.skip))
(.seq
(.region (some [0, 1, 0, 4, 15, 0, 32, 0, 128, 511, 1023, 2047]) [
⟨some 26, .fadr 0 (.t 2), none⟩,
⟨some 27, .load none (.t 26), none⟩,
⟨some 28, .fadr 1 (.t 3), none⟩,
⟨some 29, .load none (.t 28), none⟩,
⟨some 30, .call .pur 133 [(.t 27), (.t 29)], none⟩,
⟨some 31, .fadr 0 (.t 3), none⟩,
⟨some 32, .load none (.t 31), none⟩,
⟨some 33, .fadr 1 (.t 2), none⟩,
⟨some 34, .load none (.t 33), none⟩,
⟨some 35, .call .pur 133 [(.t 32), (.t 34)], none⟩,
⟨some 36, .call .pur 132 [(.t 30), (.t 35)], none⟩,
⟨some 7, .mov (.t 36), none⟩] [2, 7])
(.seq
(.seq
(.region none [
⟨some 37, .fadr 0 (.t 2), none⟩,
⟨some 38, .load none (.t 37), none⟩,
⟨some 39, .bin .lss (.t 38) (.c (.int .i64 0)), none⟩] [7, 39])
(.cond (.t 39)
(.region none [
⟨some 40, .mov (.t 7), none⟩,
⟨some 41, .un .neg (.t 40), none⟩,
⟨some 7, .mov (.t 41), none⟩] [7])
.skip))
(.seq
(.region none [
⟨some 42, .mov (.t 7), none⟩,
⟨some 4, .mov (.t 42), none⟩,
⟨some 5, .mov (.c (.int .i64 0)), none⟩] [4, 5])
.ret)))))),
[.tmp 4, .tmp 5]⟩

theorem x66_ok : chkFunc Go.Proofs.Tryz.prog (fun _ => true) x66 66 = true := by decide +kernel

/-- peloton/kheap.event -/
def x67 : XFunc := ⟨2,
(.seq
(.region none [
⟨some 2, .box (.t 0), none⟩,
⟨some 3, .box (.t 1), none⟩,
⟨some 4, .alloc [.int .i64 0, .int .i64 0, .sl 3 true [], .int .i64 0, .sl 3 true [], .sl 1 true [], .sl 1 true [], .sl 1 true [], .sl 5 true [], .sl 1 true [], .sl 3 true [], .sl 1 true []], none⟩,
⟨some 5, .alloc [.int .i64 0, .int .i64 0], none⟩,
⟨some 6, .mov (.c (.int .i64 0)), none⟩] [2, 3, 4, 5])
(.seq
(.region none [
⟨some 15, .fadr 0 (.t 2), none⟩,
⟨some 16, .load (some 11) (.t 15), none⟩,
⟨some 17, .load (some 2) (.t 3), none⟩,
⟨some 18, .call .pur 134 [(.t 16), (.t 17)], none⟩,
⟨some 14, .mov (.t 18), none⟩,
⟨some 19, .ext 0 (.t 14), none⟩,
⟨some 20, .ext 1 (.t 14), none⟩,
⟨some 21, .ext 2 (.t 14), none⟩,
⟨some 22, .ext 3 (.t 14), none⟩,
⟨some 7, .alloc [.int .i64 0, .int .i64 0, .sl 3 true [], .int .i64 0, .sl 3 true [], .sl 1 true [], .sl 1 true [], .sl 1 true [], .sl 5 true [], .sl 1 true [], .sl 3 true []], none⟩,
⟨some 8, .alloc [.int .i64 0, .int .i64 0, .int .i64 0, .int .i64 0, .int .i64 0], none⟩,
⟨some 9, .alloc [.int .i64 0, .int .i64 0], none⟩,
⟨none, .store 11 (.t 7) (.t 19), none⟩,
⟨none, .store 5 (.t 8) (.t 20), none⟩,
⟨none, .store 2 (.t 9) (.t 21), none⟩,
⟨some 10, .mov (.t 22), none⟩] [2, 4, 5, 7, 9, 10])
(.seq
(.seq
(.region none [
⟨some 23, .mov (.t 10), none⟩,
⟨some 24, .bin .neq (.t 23) (.c (.int .i64 0)), none⟩] [2, 4, 5, 7, 9, 10, 24])
(.cond (.t 24)
(.seq
(.region none [
⟨some 25, .build [.int .i64 0, .int .i64 0, .sl 3 true [], .int .i64 0, .sl 3 true [], .sl 1 true [], .sl 1 true [], .sl 1 true [], .sl 5 true [], .sl 1 true [], .sl 3 true [], .sl 1 true []] [], none⟩,
⟨some 26, .build [.int .i64 0, .int .i64 0] [], none⟩,
⟨some 27, .mov (.t 10), none⟩,
⟨none, .store 12 (.t 4) (.t 25), none⟩,
⟨none, .store 2 (.t 5) (.t 26), none⟩,
⟨some 6, .mov (.t 27), none⟩] [4, 5, 6])
.ret)
.skip))
(.seq
(.region none [
⟨some 28, .fadr 11 (.t 2), none⟩,
⟨some 29, .load none (.t 28), none⟩,
⟨some 30, .call .pur 69 [(.t 29)], none⟩,
⟨some 11, .mov (.t 30), none⟩] [4, 5, 7, 9, 11])
(.seq
(.region (some [0, 0, 2, 7, 0, 0, 32, 127, 255, 511]) [
⟨some 31, .mov (.t 11), none⟩,
⟨some 32, .fadr 0 (.t 9), none⟩,
⟨some 33, .load none (.t 32), none⟩,
⟨some 34, .call .pur 135 [(.t 31), (.t 33)], none⟩,
⟨some 35, .mov (.t 11), none⟩,
⟨some 36, .fadr 1 (.t 9), none⟩,
⟨some 37, .load none (.t 36), none⟩,
⟨some 38, .call .pur 135 [(.t 35), (.t 37)], none⟩,
⟨some 12, .mov (.t 34), none⟩,
⟨some 13, .mov (.t 38), none⟩] [4, 5, 7, 9, 11, 12, 13])
(.seq
(.region (some [0, 0, 0, 0, 0, 0, 48, 112, 0, 0, 768, 1792, 4083, 8179, 16383, 32767]) [
⟨some 39, .mov (.t 11), none⟩,
⟨some 40, .mov (.t 12), none⟩,
⟨some 41, .mov (.t 11), none⟩,
⟨some 42, .mov (.t 13), none⟩,
⟨some 43, .mov (.t 11), none⟩,
⟨some 44, .mov (.t 13), none⟩,
⟨some 45, .iadr 1 (.t 43) (.t 44), none⟩,
⟨some 46, .load none (.t 45), none⟩,
⟨some 47, .mov (.t 11), none⟩,
⟨some 48, .mov (.t 12), none⟩,
⟨some 49, .iadr 1 (.t 47) (.t 48), none⟩,
⟨some 50, .load none (.t 49), none⟩,
⟨some 51, .iadr 1 (.t 39) (.t 40), none⟩,
⟨none, .store 1 (.t 51) (.t 46), none⟩,
⟨some 52, .iadr 1 (.t 41) (.t 42), none⟩,
⟨none, .store 1 (.t 52) (.t 50), none⟩] [4, 5, 7, 9, 11])
(.seq
(.region (some [0, 0, 2, 0, 8, 31, 63, 127, 127, 255, 1023]) [
⟨some 54, .load (some 11) (.t 7), none⟩,
⟨some 55, .fadr 2 (.t 7), none⟩,
⟨some 56, .load (some 1) (.t 55), none⟩,
⟨some 57, .mov (.t 11), none⟩,
⟨some 58, .call .pur 75 [(.t 57)], none⟩,
⟨some 59, .call .pur 58 [(.t 54), (.t 56), (.t 58)], none⟩,
⟨some 53, .mov (.t 59), none⟩,
⟨some 60, .ext 0 (.t 53), none⟩,
⟨some 61, .ext 1 (.t 53), none⟩,
⟨none, .store 11 (.t 7) (.t 60), none⟩,
⟨some 10, .mov (.t 61), none⟩] [4, 5, 7, 9, 10, 11])
(.seq
(.region (some [0, 0, 3, 0, 0, 7, 47, 127]) [
⟨some 62, .load (some 11) (.t 7), none⟩,
⟨some 63, .mov (.t 11), none⟩,
⟨some 64, .build [.int .i64 0, .int .i64 0, .sl 3 true [], .int .i64 0, .sl 3 true [], .sl 1 true [], .sl 1 true [], .sl 1 true [], .sl 5 true [], .sl 1 true [], .sl 3 true [], .sl 1 true []] [(0, 11, (.t 62)), (11, 1, (.t 63))], none⟩,
⟨some 65, .load (some 2) (.t 9), none⟩,
⟨some 66, .mov (.t 10), none⟩,
⟨none, .store 12 (.t 4) (.t 64), none⟩,
⟨none, .store 2 (.t 5) (.t 65), none⟩,
⟨some 6, .mov (.t 66), none⟩] [4, 5, 6])
.ret)))))))),
[.cell 4 (some 12), .cell 5 (some 2), .tmp 6]⟩

theorem x67_ok : chkFunc Go.Proofs.Tryz.prog (fun _ => true) x67 67 = true := by decide +kernel

/-- peloton/clock.Move -/
def x68 : XFunc := ⟨2,
(.seq
(.region none [
⟨some 2, .box (.t 0), none⟩,
⟨some 3, .box (.t 1), none⟩,
⟨some 4, .alloc [.int .i64 0, .int .i64 0, .sl 3 true [], .int .i64 0, .sl 3 true [], .sl 1 true [], .sl 1 true [], .sl 1 true [], .sl 5 true [], .sl 1 true [], .sl 3 true []], none⟩,
⟨some 5, .mov (.c (.int .i64 0)), none⟩] [2, 3, 4])
(.seq
(.region none [
⟨some 10, .load (some 11) (.t 2), none⟩,
⟨some 11, .load (some 2) (.t 3), none⟩,
⟨some 12, .call .pur 136 [(.t 10), (.t 11)], none⟩,
⟨some 9, .mov (.t 12), none⟩,
⟨some 13, .ext 0 (.t 9), none⟩,
⟨some 14, .ext 1 (.t 9), none⟩,
⟨some 6, .mov (.t 13), none⟩,
⟨some 7, .mov (.t 14), none⟩] [2, 3, 4, 6, 7])
(.seq
(.seq
(.region none [
⟨some 15, .mov (.t 7), none⟩,
⟨some 16, .bin .eql (.t 15) (.c (.int .i64 0)), none⟩,
⟨some 17, .mov (.t 16), none⟩,
⟨some 18, .mov (.t 6), (some (17, true))⟩,
⟨some 19, .pick (.t 17) (.t 18) (.c (.bool false)), none⟩] [2, 3, 4, 7, 19])
(.cond (.t 19)
(.region none [
⟨some 7, .mov (.c (.int .i64 36)), none⟩] [2, 3, 4, 7])
.skip))
(.seq
(.seq
(.region none [
⟨some 20, .mov (.t 7), none⟩,
⟨some 21, .bin .neq (.t 20) (.c (.int .i64 0)), none⟩] [2, 3, 4, 7, 21])
(.cond (.t 21)
(.seq
(.region none [
⟨some 22, .build [.int .i64 0, .int .i64 0, .sl 3 true [], .int .i64 0, .sl 3 true [], .sl 1 true [], .sl 1 true [], .sl 1 true [], .sl 5 true [], .sl 1 true [], .sl 3 true []] [], none⟩,
⟨some 23, .mov (.t 7), none⟩,
⟨none, .store 11 (.t 4) (.t 22), none⟩,
⟨some 5, .mov (.t 23), none⟩] [4, 5])
.ret)
.skip))
(.seq
(.region none [
⟨some 24, .load (some 11) (.t 2), none⟩,
⟨some 25, .call .own 137 [(.t 24)], none⟩,
⟨some 8, .alloc [.int .i64 0, .int .i64 0, .sl 3 true [], .int .i64 0, .sl 3 true [], .sl 1 true [], .sl 1 true [], .sl 1 true [], .sl 5 true [], .sl 1 true [], .sl 3 true []], none⟩,
⟨none, .store 11 (.t 8) (.t 25), none⟩] [3, 4, 8])
(.seq
(.region none [
⟨some 26, .load (some 2) (.t 3), none⟩,
⟨some 27, .fadr 0 (.t 8), none⟩,
⟨none, .store 2 (.t 27) (.t 26), none⟩] [4, 8])
(.seq
(.region none [
⟨some 28, .load (some 11) (.t 8), none⟩,
⟨none, .store 11 (.t 4) (.t 28), none⟩,
⟨some 5, .mov (.c (.int .i64 0)), none⟩] [4, 5])
.ret))))))),
[.cell 4 (some 11), .tmp 5]⟩

theorem x68_ok : chkFunc Go.Proofs.Tryz.prog (fun _ => true) x68 68 = true := by decide +kernel

/-- peloton/pelotonref03.SameIDs -/
def x72 : XFunc := ⟨2,
(.seq
(.region none [
⟨some 4, .mov (.c (.bool false)), none⟩] [0, 1])
(.seq
(.seq
(.region none [
⟨some 6, .mov (.t 0), none⟩,
⟨some 7, .len (.t 6), none⟩,
⟨some 8, .mov (.t 1), none⟩,
⟨some 9, .len (.t 8), none⟩,
⟨some 10, .bin .neq (.t 7) (.t 9), none⟩] [0, 1, 10])
(.cond (.t 10)
(.seq
(.region none [
⟨some 4, .mov (.c (.bool false)), none⟩] [4])
.ret)
.skip))
(.seq
(.seq
(.region none [
⟨some 5, .mov (.c (.int .i64 0)), none⟩] [0, 1, 5])
(.block 0
(.loop [(0, none), (1, none), (5, none)]
(.seq
(.seq
(.region none [
⟨some 11, .mov (.t 5), none⟩,
⟨some 12, .mov (.t 0), none⟩,
⟨some 13, .len (.t 12), none⟩,
⟨some 14, .bin .lss (.t 11) (.t 13), none⟩] [0, 1, 5, 14])
(.cond (.t 14)
.skip
(.exit 0)))
(.seq
(.block 1
(.seq
(.region (some [0, 0, 3, 7, 0, 0, 48, 112, 255]) [
⟨some 17, .mov (.t 0), none⟩,
⟨some 18, .mov (.t 5), none⟩,
⟨some 19, .iadr 1 (.t 17) (.t 18), none⟩,
⟨some 20, .load none (.t 19), none⟩,
⟨some 21, .mov (.t 1), none⟩,
⟨some 22, .mov (.t 5), none⟩,
⟨some 23, .iadr 1 (.t 21) (.t 22), none⟩,
⟨some 24, .load none (.t 23), none⟩,
⟨some 25, .bin .neq (.t 20) (.t 24), none⟩] [0, 1, 5, 25])
(.cond (.t 25)
(.seq
(.region none [
⟨some 4, .mov (.c (.bool false)), none⟩] [4])
.ret)
.skip)))
(.region none [
⟨some 15, .mov (.t 5), none⟩,
⟨some 16, .bin .add (.t 15) (.c (.int .i64 1)), none⟩,
⟨some 5, .mov (.t 16), none⟩] [0, 1, 5]))))))
(.seq
(.region none [
⟨some 4, .mov (.c (.bool true)), none⟩] [4])
.ret)))),
[.tmp 4]⟩

theorem x72_ok : chkFunc Go.Proofs.Tryz.prog (fun _ => true) x72 72 = true := by decide +kernel

/-- peloton/clock.New -/
def x73 : XFunc := ⟨2,
(.seq
(.region none [
⟨some 2, .box (.t 0), none⟩,
⟨some 3, .box (.t 1), none⟩,
⟨some 4, .alloc [.int .i64 0, .int .i64 0, .sl 3 true [], .int .i64 0, .sl 3 true [], .sl 1 true [], .sl 1 true [], .sl 1 true [], .sl 5 true [], .sl 1 true [], .sl 3 true []], none⟩,
⟨some 5, .mov (.c (.int .i64 0)), none⟩] [2, 3, 4])
(.seq
(.seq
(.region none [
⟨some 10, .load (some 1) (.t 2), none⟩,
⟨some 11, .call .pur 55 [(.t 10)], none⟩,
⟨some 6, .mov (.t 11), none⟩] [2, 3, 4, 6])
(.seq
(.region none [
⟨some 12, .mov (.t 6), none⟩,
⟨some 13, .bin .neq (.t 12) (.c (.int .i64 0)), none⟩] [2, 3, 4, 6, 13])
(.cond (.t 13)
(.seq
(.region none [
⟨some 14, .build [.int .i64 0, .int .i64 0, .sl 3 true [], .int .i64 0, .sl 3 true [], .sl 1 true [], .sl 1 true [], .sl 1 true [], .sl 5 true [], .sl 1 true [], .sl 3 true []] [], none⟩,
⟨some 15, .mov (.t 6), none⟩,
⟨none, .store 11 (.t 4) (.t 14), none⟩,
⟨some 5, .mov (.t 15), none⟩] [4, 5])
.ret)
.skip)))
(.seq
(.seq
(.region none [
⟨some 16, .load (some 2) (.t 3), none⟩,
⟨some 17, .call .pur 65 [(.t 16)], none⟩,
⟨some 7, .mov (.t 17), none⟩] [2, 3, 4, 7])
(.seq
(.region none [
⟨some 18, .mov (.t 7), none⟩,
⟨some 19, .bin .neq (.t 18) (.c (.int .i64 0)), none⟩] [2, 3, 4, 7, 19])
(.cond (.t 19)
(.seq
(.region none [
⟨some 20, .build [.int .i64 0, .int .i64 0, .sl 3 true [], .int .i64 0, .sl 3 true [], .sl 1 true [], .sl 1 true [], .sl 1 true [], .sl 5 true [], .sl 1 true [], .sl 3 true []] [], none⟩,
⟨some 21, .mov (.t 7), none⟩,
⟨none, .store 11 (.t 4) (.t 20), none⟩,
⟨some 5, .mov (.t 21), none⟩] [4, 5])
.ret)
.skip)))
(.seq
(.region none [
⟨some 23, .call .pur 141 [(.c (.int .i64 200))], none⟩,
⟨some 22, .mov (.t 23), none⟩,
⟨some 24, .ext 0 (.t 22), none⟩,
⟨some 25, .ext 1 (.t 22), none⟩,
⟨some 8, .alloc [.sl 1 true [], .sl 1 true [], .sl 1 true [], .sl 5 true [], .sl 1 true []], none⟩,
⟨none, .store 5 (.t 8) (.t 24), none⟩,
⟨some 9, .mov (.t 25), none⟩] [2, 3, 4, 8, 9])
(.seq
(.region (some [0, 0, 2, 6, 14, 0, 63, 0, 127, 511]) [
⟨some 26, .load (some 2) (.t 3), none⟩,
⟨some 27, .fadr 0 (.t 2), none⟩,
⟨some 28, .load none (.t 27), none⟩,
⟨some 29, .call .pur 112 [(.t 28)], none⟩,
⟨some 30, .build [.sl 3 true []] [(0, 1, (.t 29))], none⟩,
⟨some 31, .load (some 5) (.t 8), none⟩,
⟨some 32, .build [.int .i64 0, .int .i64 0, .sl 3 true [], .int .i64 0, .sl 3 true [], .sl 1 true [], .sl 1 true [], .sl 1 true [], .sl 5 true [], .sl 1 true [], .sl 3 true []] [(0, 2, (.t 26)), (2, 1, (.t 30)), (5, 5, (.t 31))], none⟩,
⟨some 33, .mov (.t 9), none⟩,
⟨none, .store 11 (.t 4) (.t 32), none⟩,
⟨some 5, .mov (.t 33), none⟩] [4, 5])
.ret))))),
[.cell 4 (some 11), .tmp 5]⟩

theorem x73_ok : chkFunc Go.Proofs.Tryz.prog (fun _ => true) x73 73 = true := by decide +kernel

/-- peloton/kheap.rise -/
def x74 : XFunc := ⟨4,
(.seq
(.region none [
⟨some 4, .box (.t 0), none⟩,
⟨some 5, .box (.t 1), none⟩] [2, 3, 4, 5])
(.block 0
(.loop [(2, none), (3, none), (4, none), (5, none)]
(.seq
(.seq
(.region (some [0, 1, 3, 7, 7, 7, 7, 103, 231, 7, 7, 1031, 3079, 7687, 15879, 32767, 65535]) [
⟨some 8, .mov (.t 3), none⟩,
⟨some 9, .bin .gtr (.t 8) (.c (.int .i64 0)), none⟩,
⟨some 10, .mov (.t 9), none⟩,
⟨some 11, .load (some 1) (.t 4), (some (10, true))⟩,
⟨some 12, .load (some 2) (.t 5), (some (10, true))⟩,
⟨some 13, .mov (.t 2), (some (10, true))⟩,
⟨some 14, .mov (.t 3), (some (10, true))⟩,
⟨some 15, .iadr 1 (.t 13) (.t 14), (some (10, true))⟩,
⟨some 16, .load none (.t 15), (some (10, true))⟩,
⟨some 17, .mov (.t 2), (some (10, true))⟩,
⟨some 18, .mov (.t 3), (some (10, true))⟩,
⟨some 19, .bin .sub (.t 18) (.c (.int .i64 1)), (some (10, true))⟩,
⟨some 20, .bin .quo (.t 19) (.c (.int .i64 2)), (some (10, true))⟩,
⟨some 21, .iadr 1 (.t 17) (.t 20), (some (10, true))⟩,
⟨some 22, .load none (.t 21), (some (10, true))⟩,
⟨some 23, .call .pur 79 [(.t 11), (.t 12), (.t 16), (.t 22)], (some (10, true))⟩,
⟨some 24, .pick (.t 10) (.t 23) (.c (.bool false)), none⟩] [2, 3, 4, 5, 24])
(.cond (.t 24)
.skip
(.exit 0)))
(.block 1
(.seq
(.region (some [0, 0, 0, 0, 8, 24, 0, 0, 128, 384, 960, 1984, 0, 0, 12288, 28672, 65475, 131011, 262143, 524287]) [
⟨some 25, .mov (.t 2), none⟩,
⟨some 26, .mov (.t 3), none⟩,
⟨some 27, .mov (.t 2), none⟩,
⟨some 28, .mov (.t 3), none⟩,
⟨some 29, .bin .sub (.t 28) (.c (.int .i64 1)), none⟩,
⟨some 30, .bin .quo (.t 29) (.c (.int .i64 2)), none⟩,
⟨some 31, .mov (.t 2), none⟩,
⟨some 32, .mov (.t 3), none⟩,
⟨some 33, .bin .sub (.t 32) (.c (.int .i64 1)), none⟩,
⟨some 34, .bin .quo (.t 33) (.c (.int .i64 2)), none⟩,
⟨some 35, .iadr 1 (.t 31) (.t 34), none⟩,
⟨some 36, .load none (.t 35), none⟩,
⟨some 37, .mov (.t 2), none⟩,
⟨some 38, .mov (.t 3), none⟩,
⟨some 39, .iadr 1 (.t 37) (.t 38), none⟩,
⟨some 40, .load none (.t 39), none⟩,
⟨some 41, .iadr 1 (.t 25) (.t 26), none⟩,
⟨none, .store 1 (.t 41) (.t 36), none⟩,
⟨some 42, .iadr 1 (.t 27) (.t 30), none⟩,
⟨none, .store 1 (.t 42) (.t 40), none⟩] [2, 3, 4, 5])
(.region none [
⟨some 43, .mov (.t 3), none⟩,
⟨some 44, .bin .sub (.t 43) (.c (.int .i64 1)), none⟩,
⟨some 45, .bin .quo (.t 44) (.c (.int .i64 2)), none⟩,
⟨some 3, .mov (.t 45), none⟩] [2, 3, 4, 5]))))))),
[]⟩

theorem x74_ok : chkFunc Go.Proofs.Tryz.prog (fun _ => true) x74 74 = true := by decide +kernel

/-- peloton/kheap.edges -/
def x75 : XFunc := ⟨1,
(.seq
(.region none [
⟨some 2, .mov (.c (.sl 2 true [])), none⟩] [0])
(.seq
(.region none [
⟨some 3, .mov (.c (.sl 2 true [])), none⟩] [0, 3])
(.seq
(.seq
(.region none [
⟨some 4, .mov (.c (.int .i64 1)), none⟩] [0, 3, 4])
(.block 0
(.loop [(0, none), (3, some 2), (4, none)]
(.seq
(.seq
(.region none [
⟨some 5, .mov (.t 4), none⟩,
⟨some 6, .mov (.t 0), none⟩,
⟨some 7, .len (.t 6), none⟩,
⟨some 8, .bin .lss (.t 5) (.t 7), none⟩] [0, 3, 4, 8])
(.cond (.t 8)
.skip
(.exit 0)))
(.seq
(.block 1
(.region (some [0, 0, 0, 6, 14, 0, 0, 64, 192, 480, 992, 2046, 4094, 8191, 16383]) [
⟨some 11, .mov (.t 3), none⟩,
⟨some 12, .mov (.t 0), none⟩,
⟨some 13, .mov (.t 4), none⟩,
⟨some 14, .iadr 1 (.t 12) (.t 13), none⟩,
⟨some 15, .load none (.t 14), none⟩,
⟨some 16, .mov (.t 0), none⟩,
⟨some 17, .mov (.t 4), none⟩,
⟨some 18, .bin .sub (.t 17) (.c (.int .i64 1)), none⟩,
⟨some 19, .bin .quo (.t 18) (.c (.int .i64 2)), none⟩,
⟨some 20, .iadr 1 (.t 16) (.t 19), none⟩,
⟨some 21, .load none (.t 20), none⟩,
⟨some 22, .build [.int .i64 0, .int .i64 0] [(0, 1, (.t 15)), (1, 1, (.t 21))], none⟩,
⟨some 23, .mkrow 2 1 [.int .i64 0, .int .i64 0] [(0, (.t 22))], none⟩,
⟨some 24, .append 2 (.t 11) (.t 23), none⟩,
⟨some 3, .mov (.t 24), none⟩] [0, 3, 4]))
(.region none [
⟨some 9, .mov (.t 4), none⟩,
⟨some 10, .bin .add (.t 9) (.c (.int .i64 1)), none⟩,
⟨some 4, .mov (.t 10), none⟩] [0, 3, 4]))))))
(.seq
(.region none [
⟨some 25, .mov (.t 3), none⟩,
⟨some 2, .mov (.t 25), none⟩] [2])
.ret)))),
[.tmp 2]⟩

theorem x75_ok : chkFunc Go.Proofs.Tryz.prog (fun _ => true) x75 75 = true := by decide +kernel

/-- peloton/pelotonref13.Of -/
def x76 : XFunc := ⟨1,
(.seq
(.region none [
⟨some 2, .mov (.c (.sl 2 true [])), none⟩] [0])
(.seq
(.region none [
⟨some 3, .mov (.c (.sl 2 true [])), none⟩] [0, 3])
(.seq
(.seq
(.region none [
⟨some 4, .mov (.c (.int .i64 1)), none⟩] [0, 3, 4])
(.block 0
(.loop [(0, none), (3, some 2), (4, none)]
(.seq
(.seq
(.region none [
⟨some 5, .mov (.t 4), none⟩,
⟨some 6, .mov (.t 0), none⟩,
⟨some 7, .len (.t 6), none⟩,
⟨some 8, .bin .lss (.t 5) (.t 7), none⟩] [0, 3, 4, 8])
(.cond (.t 8)
.skip
(.exit 0)))
(.seq
(.block 1
(.region (some [0, 0, 0, 6, 14, 0, 0, 64, 192, 480, 992, 2046, 4094, 8191, 16383]) [
⟨some 11, .mov (.t 3), none⟩,
⟨some 12, .mov (.t 0), none⟩,
⟨some 13, .mov (.t 4), none⟩,
⟨some 14, .iadr 1 (.t 12) (.t 13), none⟩,
⟨some 15, .load none (.t 14), none⟩,
⟨some 16, .mov (.t 0), none⟩,
⟨some 17, .mov (.t 4), none⟩,
⟨some 18, .bin .sub (.t 17) (.c (.int .i64 1)), none⟩,
⟨some 19, .bin .quo (.t 18) (.c (.int .i64 2)), none⟩,
⟨some 20, .iadr 1 (.t 16) (.t 19), none⟩,
⟨some 21, .load none (.t 20), none⟩,
⟨some 22, .build [.int .i64 0, .int .i64 0] [(0, 1, (.t 15)), (1, 1, (.t 21))], none⟩,
⟨some 23, .mkrow 2 1 [.int .i64 0, .int .i64 0] [(0, (.t 22))], none⟩,
⟨some 24, .append 2 (.t 11) (.t 23), none⟩,
⟨some 3, .mov (.t 24), none⟩] [0, 3, 4]))
(.region none [
⟨some 9, .mov (.t 4), none⟩,
⟨some 10, .bin .add (.t 9) (.c (.int .i64 1)), none⟩,
⟨some 4, .mov (.t 10), none⟩] [0, 3, 4]))))))
(.seq
(.region none [
⟨some 25, .mov (.t 3), none⟩,
⟨some 2, .mov (.t 25), none⟩] [2])
.ret)))),
[.tmp 2]⟩

theorem x76_ok : chkFunc Go.Proofs.Tryz.prog (fun _ => true) x76 76 = true := by decide +kernel

/-- peloton/clock.Next -/
def x77 : XFunc := ⟨1,
(.seq
(.region none [
⟨some 1, .box (.t 0), none⟩,
⟨some 2, .alloc [.int .i64 0, .int .i64 0, .int .i64 0, .int .i64 0, .int .i64 0], none⟩,
⟨some 3, .mov (.c (.int .i64 0)), none⟩] [1, 2])
(.seq
(.seq
(.region none [
⟨some 5, .load (some 11) (.t 1), none⟩,
⟨some 6, .call .pur 54 [(.t 5)], none⟩,
⟨some 4, .mov (.t 6), none⟩] [1, 2, 4])
(.seq
(.region none [
⟨some 7, .mov (.t 4), none⟩,
⟨some 8, .bin .neq (.t 7) (.c (.int .i64 0)), none⟩] [1, 2, 4, 8])
(.cond (.t 8)
(.seq
(.region none [
⟨some 9, .build [.int .i64 0, .int .i64 0, .int .i64 0, .int .i64 0, .int .i64 0] [], none⟩,
⟨some 10, .mov (.t 4), none⟩,
⟨none, .store 5 (.t 2) (.t 9), none⟩,
⟨some 3, .mov (.t 10), none⟩] [2, 3])
.ret)
.skip)))
(.seq
(.region none [
⟨some 11, .fadr 5 (.t 1), none⟩,
⟨some 12, .load (some 5) (.t 11), none⟩,
⟨some 13, .call .pur 142 [(.t 12)], none⟩,
⟨some 14, .ext 0 (.t 13), none⟩,
⟨some 15, .ext 1 (.t 13), none⟩,
⟨none, .store 5 (.t 2) (.t 14), none⟩,
⟨some 3, .mov (.t 15), none⟩] [2, 3])
.ret))),
[.cell 2 (some 5), .tmp 3]⟩

theorem x77_ok : chkFunc Go.Proofs.Tryz.prog (fun _ => true) x77 77 = true := by decide +kernel

/-- slices.Contains[[]int,int] -/
def x78 : XFunc := ⟨2,
(.seq
(.region none [
⟨some 4, .mov (.c (.bool false)), none⟩] [0, 1])
(.seq
(.region none [
⟨some 5, .mov (.t 0), none⟩,
⟨some 6, .mov (.t 1), none⟩,
⟨some 7, .call .pur 135 [(.t 5), (.t 6)], none⟩,
⟨some 8, .bin .geq (.t 7) (.c (.int .i64 0)), none⟩,
⟨some 4, .mov (.t 8), none⟩] [4])
.ret)),
[.tmp 4]⟩

theorem x78_ok : chkFunc Go.Proofs.Tryz.prog (fun _ => true) x78 78 = true := by decide +kernel

/-- peloton/kheap.ahead -/
def x79 : XFunc := ⟨4,
(.seq
(.region none [
⟨some 4, .box (.t 0), none⟩,
⟨some 5, .box (.t 1), none⟩,
⟨some 8, .mov (.c (.bool false)), none⟩] [2, 3, 4, 5])
(.seq
(.region none [
⟨some 16, .load (some 1) (.t 4), none⟩,
⟨some 17, .mov (.t 2), none⟩,
⟨some 18, .call .pur 57 [(.t 16), (.t 17)], none⟩,
⟨some 15, .mov (.t 18), none⟩,
⟨some 19, .ext 0 (.t 15), none⟩,
⟨some 20, .ext 1 (.t 15), none⟩,
⟨some 9, .alloc [.int .i64 0, .int .i64 0, .int .i64 0], none⟩,
⟨none, .store 3 (.t 9) (.t 19), none⟩,
⟨some 10, .mov (.t 20), none⟩] [3, 4, 5, 9])
(.seq
(.region none [
⟨some 22, .load (some 1) (.t 4), none⟩,
⟨some 23, .mov (.t 3), none⟩,
⟨some 24, .call .pur 57 [(.t 22), (.t 23)], none⟩,
⟨some 21, .mov (.t 24), none⟩,
⟨some 25, .ext 0 (.t 21), none⟩,
⟨some 26, .ext 1 (.t 21), none⟩,
⟨some 11, .alloc [.int .i64 0, .int .i64 0, .int .i64 0], none⟩,
⟨none, .store 3 (.t 11) (.t 25), none⟩,
⟨some 12, .mov (.t 26), none⟩] [5, 9, 11])
(.seq
(.region none [
⟨some 28, .load (some 3) (.t 9), none⟩,
⟨some 29, .load (some 3) (.t 11), none⟩,
⟨some 30, .load (some 2) (.t 5), none⟩,
⟨some 31, .call .pur 143 [(.t 28), (.t 29), (.t 30)], none⟩,
⟨some 27, .mov (.t 31), none⟩,
⟨some 32, .ext 0 (.t 27), none⟩,
⟨some 33, .ext 1 (.t 27), none⟩,
⟨some 13, .mov (.t 32), none⟩,
⟨some 14, .mov (.t 33), none⟩] [13])
(.seq
(.region none [
⟨some 34, .mov (.t 13), none⟩,
⟨some 8, .mov (.t 34), none⟩] [8])
.ret))))),
[.tmp 8]⟩

theorem x79_ok : chkFunc Go.Proofs.Tryz.prog (fun _ => true) x79 79 = true := by decide +kernel

/-- peloton/pelotonref03.At -/
def x80 : XFunc := ⟨2,
(.seq
(.region none [
⟨some 2, .box (.t 0), none⟩,
⟨some 4, .mov (.c (.int .i64 0)), none⟩] [1, 2])
(.seq
(.seq
(.region none [
⟨some 5, .mov (.c (.int .i64 0)), none⟩] [1, 2, 5])
(.block 0
(.loop [(1, none), (2, none), (5, none)]
(.seq
(.seq
(.region none [
⟨some 6, .mov (.t 5), none⟩,
⟨some 7, .fadr 0 (.t 2), none⟩,
⟨some 8, .load none (.t 7), none⟩,
⟨some 9, .len (.t 8), none⟩,
⟨some 10, .bin .lss (.t 6) (.t 9), none⟩] [1, 2, 5, 10])
(.cond (.t 10)
.skip
(.exit 0)))
(.seq
(.block 1
(.seq
(.region none [
⟨some 13, .fadr 0 (.t 2), none⟩,
⟨some 14, .load none (.t 13), none⟩,
⟨some 15, .mov (.t 5), none⟩,
⟨some 16, .iadr 3 (.t 14) (.t 15), none⟩,
⟨some 17, .fadr 0 (.t 16), none⟩,
⟨some 18, .load none (.t 17), none⟩,
⟨some 19, .mov (.t 1), none⟩,
⟨some 20, .bin .eql (.t 18) (.t 19), none⟩] [1, 2, 5, 20])
(.cond (.t 20)
(.seq
(.region none [
⟨some 21, .mov (.t 5), none⟩,
⟨some 4, .mov (.t 21), none⟩] [4])
.ret)
.skip)))
(.region none [
⟨some 11, .mov (.t 5), none⟩,
⟨some 12, .bin .add (.t 11) (.c (.int .i64 1)), none⟩,
⟨some 5, .mov (.t 12), none⟩] [1, 2, 5]))))))
(.seq
(.region none [
⟨some 4, .mov (.c (.int .i64 (-1))), none⟩] [4])
.ret))),
[.tmp 4]⟩

theorem x80_ok : chkFunc Go.Proofs.Tryz.prog (fun _ => true) x80 80 = true := by decide +kernel

/-- peloton/pelotonref01.Product -/
def x82 : XFunc := ⟨2,
(.seq
(.region none [
⟨some 4, .alloc [.bool false, .int .u64 0, .int .u64 0], none⟩] [0, 1, 4])
(.seq
(.region none [
⟨some 6, .mov (.t 0), none⟩,
⟨some 7, .call .pur 94 [(.t 6)], none⟩,
⟨some 8, .mov (.t 1), none⟩,
⟨some 9, .call .pur 94 [(.t 8)], none⟩,
⟨some 10, .call .pur 144 [(.t 7), (.t 9)], none⟩,
⟨some 5, .alloc [.bool false, .int .u64 0, .int .u64 0], none⟩,
⟨none, .store 3 (.t 5) (.t 10), none⟩] [0, 1, 4, 5])
(.seq
(.region none [
⟨some 11, .mov (.t 0), none⟩,
⟨some 12, .bin .lss (.t 11) (.c (.int .i64 0)), none⟩,
⟨some 13, .mov (.t 1), none⟩,
⟨some 14, .bin .lss (.t 13) (.c (.int .i64 0)), none⟩,
⟨some 15, .binb true (.t 12) (.t 14), none⟩,
⟨some 16, .mov (.t 15), none⟩,
⟨some 17, .mov (.t 0), (some (16, true))⟩,
⟨some 18, .bin .neq (.t 17) (.c (.int .i64 0)), (some (16, true))⟩,
⟨some 19, .mov (.t 18), (some (16, true))⟩,
⟨some 20, .mov (.t 1), (some (19, true))⟩,
⟨some 21, .bin .neq (.t 20) (.c (.int .i64 0)), (some (19, true))⟩,
⟨some 22, .pick (.t 19) (.t 21) (.c (.bool false)), (some (16, true))⟩,
⟨some 23, .pick (.t 16) (.t 22) (.c (.bool false)), none⟩,
⟨some 24, .fadr 0 (.t 5), none⟩,
⟨none, .store 1 (.t 24) (.t 23), none⟩] [4, 5])
(.seq
(.region none [
⟨some 25, .load (some 3) (.t 5), none⟩,
⟨none, .store 3 (.t 4) (.t 25), none⟩] [4])
.ret)))),
[.cell 4 (some 3)]⟩

theorem x82_ok : chkFunc Go.Proofs.Tryz.prog (fun _ => true) x82 82 = true := by decide +kernel

/-- peloton/pelotonref01.Sign -/
def x83 : XFunc := ⟨1,
(.seq
(.region none [
⟨some 1, .box (.t 0), none⟩,
⟨some 2, .mov (.c (.int .i64 0)), none⟩] [1])
(.seq
(.seq
(.region none [
⟨some 3, .fadr 1 (.t 1), none⟩,
⟨some 4, .load none (.t 3), none⟩,
⟨some 5, .bin .eql (.t 4) (.c (.int .u64 0)), none⟩,
⟨some 6, .mov (.t 5), none⟩,
⟨some 7, .fadr 2 (.t 1), (some (6, true))⟩,
⟨some 8, .load none (.t 7), (some (6, true))⟩,
⟨some 9, .bin .eql (.t 8) (.c (.int .u64 0)), (some (6, true))⟩,
⟨some 10, .pick (.t 6) (.t 9) (.c (.bool false)), none⟩] [1, 10])
(.cond (.t 10)
(.seq
(.region none [
⟨some 2, .mov (.c (.int .i64 0)), none⟩] [2])
.ret)
.skip))
(.seq
(.seq
(.region none [
⟨some 11, .fadr 0 (.t 1), none⟩,
⟨some 12, .load none (.t 11), none⟩] [12])
(.cond (.t 12)
(.seq
(.region none [
⟨some 2, .mov (.c (.int .i64 (-1))), none⟩] [2])
.ret)
.skip))
(.seq
(.region none [
⟨some 2, .mov (.c (.int .i64 1)), none⟩] [2])
.ret)))),
[.tmp 2]⟩

theorem x83_ok : chkFunc Go.Proofs.Tryz.prog (fun _ => true) x83 83 = true := by decide +kernel

/-- peloton/pelotonref01.less -/
def x84 : XFunc := ⟨2,
(.seq
(.region none [
⟨some 2, .box (.t 0), none⟩,
⟨some 3, .box (.t 1), none⟩,
⟨some 4, .mov (.c (.int .i64 0)), none⟩] [2, 3])
(.seq
(.seq
(.region none [
⟨some 5, .fadr 1 (.t 2), none⟩,
⟨some 6, .load none (.t 5), none⟩,
⟨some 7, .fadr 1 (.t 3), none⟩,
⟨some 8, .load none (.t 7), none⟩,
⟨some 9, .bin .neq (.t 6) (.t 8), none⟩] [2, 3, 9])
(.cond (.t 9)
(.seq
(.seq
(.region none [
⟨some 10, .fadr 1 (.t 2), none⟩,
⟨some 11, .load none (.t 10), none⟩,
⟨some 12, .fadr 1 (.t 3), none⟩,
⟨some 13, .load none (.t 12), none⟩,
⟨some 14, .bin .lss (.t 11) (.t 13), none⟩] [14])
(.cond (.t 14)
(.seq
(.region none [
⟨some 4, .mov (.c (.int .i64 (-1))), none⟩] [4])
.ret)
.skip))
(.seq
(.region none [
⟨some 4, .mov (.c (.int .i64 1)), none⟩] [4])
.ret))
.skip))
(.seq
(.seq
(.region none [
⟨some 15, .fadr 2 (.t 2), none⟩,
⟨some 16, .load none (.t 15), none⟩,
⟨some 17, .fadr 2 (.t 3), none⟩,
⟨some 18, .load none (.t 17), none⟩,
⟨some 19, .bin .neq (.t 16) (.t 18), none⟩] [2, 3, 19])
(.cond (.t 19)
(.seq
(.seq
(.region none [
⟨some 20, .fadr 2 (.t 2), none⟩,
⟨some 21, .load none (.t 20), none⟩,
⟨some 22, .fadr 2 (.t 3), none⟩,
⟨some 23, .load none (.t 22), none⟩,
⟨some 24, .bin .lss (.t 21) (.t 23), none⟩] [24])
(.cond (.t 24)
(.seq
(.region none [
⟨some 4, .mov (.c (.int .i64 (-1))), none⟩] [4])
.ret)
.skip))
(.seq
(.region none [
⟨some 4, .mov (.c (.int .i64 1)), none⟩] [4])
.ret))
.skip))
(.seq
(.region none [
⟨some 4, .mov (.c (.int .i64 0)), none⟩] [4])
.ret)))),
[.tmp 4]⟩

theorem x84_ok : chkFunc Go.Proofs.Tryz.prog (fun _ => true) x84 84 = true := by decide +kernel

/-- peloton/pelotonref13.Risen -/
def x85 : XFunc := ⟨4,
(.seq
(.region none [
⟨some 4, .box (.t 0), none⟩,
⟨some 5, .box (.t 1), none⟩,
⟨some 8, .mov (.c (.sl 1 true [])), none⟩] [2, 3, 4, 5])
(.seq
(.region none [
⟨some 10, .mkrow 1 0 [.int .i64 0] [], none⟩,
⟨some 11, .mov (.t 2), none⟩,
⟨some 12, .append 1 (.t 10) (.t 11), none⟩,
⟨some 9, .mov (.t 12), none⟩] [3, 4, 5, 9])
(.seq
(.block 0
(.loop [(3, none), (4, none), (5, none), (9, none)]
(.seq
(.seq
(.region (some [0, 1, 3, 7, 7, 7, 7, 103, 231, 7, 7, 1031, 3079, 7687, 15879, 32767, 65535]) [
⟨some 13, .mov (.t 3), none⟩,
⟨some 14, .bin .gtr (.t 13) (.c (.int .i64 0)), none⟩,
⟨some 15, .mov (.t 14), none⟩,
⟨some 16, .load (some 1) (.t 4), (some (15, true))⟩,
⟨some 17, .load (some 2) (.t 5), (some (15, true))⟩,
⟨some 18, .mov (.t 9), (some (15, true))⟩,
⟨some 19, .mov (.t 3), (some (15, true))⟩,
⟨some 20, .iadr 1 (.t 18) (.t 19), (some (15, true))⟩,
⟨some 21, .load none (.t 20), (some (15, true))⟩,
⟨some 22, .mov (.t 9), (some (15, true))⟩,
⟨some 23, .mov (.t 3), (some (15, true))⟩,
⟨some 24, .bin .sub (.t 23) (.c (.int .i64 1)), (some (15, true))⟩,
⟨some 25, .bin .quo (.t 24) (.c (.int .i64 2)), (some (15, true))⟩,
⟨some 26, .iadr 1 (.t 22) (.t 25), (some (15, true))⟩,
⟨some 27, .load none (.t 26), (some (15, true))⟩,
⟨some 28, .call .pur 42 [(.t 16), (.t 17), (.t 21), (.t 27)], (some (15, true))⟩,
⟨some 29, .pick (.t 15) (.t 28) (.c (.bool false)), none⟩] [3, 4, 5, 9, 29])
(.cond (.t 29)
.skip
(.exit 0)))
(.block 1
(.seq
(.region (some [0, 0, 0, 0, 8, 24, 0, 0, 128, 384, 960, 1984, 0, 0, 12288, 28672, 65475, 131011, 262143, 524287]) [
⟨some 30, .mov (.t 9), none⟩,
⟨some 31, .mov (.t 3), none⟩,
⟨some 32, .mov (.t 9), none⟩,
⟨some 33, .mov (.t 3), none⟩,
⟨some 34, .bin .sub (.t 33) (.c (.int .i64 1)), none⟩,
⟨some 35, .bin .quo (.t 34) (.c (.int .i64 2)), none⟩,
⟨some 36, .mov (.t 9), none⟩,
⟨some 37, .mov (.t 3), none⟩,
⟨some 38, .bin .sub (.t 37) (.c (.int .i64 1)), none⟩,
⟨some 39, .bin .quo (.t 38) (.c (.int .i64 2)), none⟩,
⟨some 40, .iadr 1 (.t 36) (.t 39), none⟩,
⟨some 41, .load none (.t 40), none⟩,
⟨some 42, .mov (.t 9), none⟩,
⟨some 43, .mov (.t 3), none⟩,
⟨some 44, .iadr 1 (.t 42) (.t 43), none⟩,
⟨some 45, .load none (.t 44), none⟩,
⟨some 46, .iadr 1 (.t 30) (.t 31), none⟩,
⟨none, .store 1 (.t 46) (.t 41), none⟩,
⟨some 47, .iadr 1 (.t 32) (.t 35), none⟩,
⟨none, .store 1 (.t 47) (.t 45), none⟩] [3, 4, 5, 9])
(.region none [
⟨some 48, .mov (.t 3), none⟩,
⟨some 49, .bin .sub (.t 48) (.c (.int .i64 1)), none⟩,
⟨some 50, .bin .quo (.t 49) (.c (.int .i64 2)), none⟩,
⟨some 3, .mov (.t 50), none⟩] [3, 4, 5, 9]))))))
(.seq
(.region none [
⟨some 51, .mov (.t 9), none⟩,
⟨some 8, .mov (.t 51), none⟩] [8])
.ret)))),
[.tmp 8]⟩

theorem x85_ok : chkFunc Go.Proofs.Tryz.prog (fun _ => true) x85 85 = true := by decide +kernel

/-- peloton/pelotonref09.Begin -/
def x86 : XFunc := ⟨2,
(.seq
(.region none [
⟨some 2, .box (.t 0), none⟩,
⟨some 3, .box (.t 1), none⟩,
⟨some 4, .alloc [.int .i64 0, .int .i64 0, .sl 3 true [], .int .i64 0, .sl 3 true [], .sl 1 true [], .sl 1 true [], .sl 1 true [], .sl 5 true [], .sl 1 true [], .sl 3 true []], none⟩] [2, 3, 4])
(.seq
(.region (some [0, 0, 2, 6, 15, 31]) [
⟨some 5, .load (some 2) (.t 3), none⟩,
⟨some 6, .load (some 1) (.t 2), none⟩,
⟨some 7, .call .own 51 [(.t 6)], none⟩,
⟨some 8, .call .pur 145 [(.c (.int .i64 200))], none⟩,
⟨some 9, .build [.int .i64 0, .int .i64 0, .sl 3 true [], .int .i64 0, .sl 3 true [], .sl 1 true [], .sl 1 true [], .sl 1 true [], .sl 5 true [], .sl 1 true [], .sl 3 true []] [(0, 2, (.t 5)), (2, 1, (.t 7)), (5, 5, (.t 8))], none⟩,
⟨none, .store 11 (.t 4) (.t 9), none⟩] [4])
.ret)),
[.cell 4 (some 11)]⟩

theorem x86_ok : chkFunc Go.Proofs.Tryz.prog (fun _ => true) x86 86 = true := by decide +kernel

/-- peloton/pelotonref08.Without -/
def x87 : XFunc := ⟨2,
(.seq
(.region none [
⟨some 2, .box (.t 0), none⟩,
⟨some 4, .alloc [.int .i64 0, .sl 3 true []], none⟩] [1, 2, 4])
(.seq
(.region none [
⟨some 7, .fadr 0 (.t 2), none⟩,
⟨some 8, .load none (.t 7), none⟩,
⟨some 9, .build [.int .i64 0, .sl 3 true []] [(0, 1, (.t 8))], none⟩,
⟨some 5, .alloc [.int .i64 0, .sl 3 true []], none⟩,
⟨none, .store 2 (.t 5) (.t 9), none⟩] [1, 2, 4, 5])
(.seq
(.seq
(.region none [
⟨some 6, .mov (.c (.int .i64 0)), none⟩] [1, 2, 4, 5, 6])
(.block 0
(.loop [(1, none), (2, none), (4, none), (5, none), (6, none)]
(.seq
(.seq
(.region none [
⟨some 10, .mov (.t 6), none⟩,
⟨some 11, .fadr 1 (.t 2), none⟩,
⟨some 12, .load none (.t 11), none⟩,
⟨some 13, .len (.t 12), none⟩,
⟨some 14, .bin .lss (.t 10) (.t 13), none⟩] [1, 2, 4, 5, 6, 14])
(.cond (.t 14)
.skip
(.exit 0)))
(.seq
(.block 1
(.seq
(.region none [
⟨some 17, .fadr 1 (.t 2), none⟩,
⟨some 18, .load none (.t 17), none⟩,
⟨some 19, .mov (.t 6), none⟩,
⟨some 20, .iadr 3 (.t 18) (.t 19), none⟩,
⟨some 21, .fadr 0 (.t 20), none⟩,
⟨some 22, .load none (.t 21), none⟩,
⟨some 23, .mov (.t 1), none⟩,
⟨some 24, .bin .neq (.t 22) (.t 23), none⟩] [1, 2, 4, 5, 6, 24])
(.cond (.t 24)
(.region (some [0, 1, 0, 4, 0, 28, 60, 124, 255, 511, 1023]) [
⟨some 25, .fadr 1 (.t 5), none⟩,
⟨some 26, .load none (.t 25), none⟩,
⟨some 27, .fadr 1 (.t 2), none⟩,
⟨some 28, .load none (.t 27), none⟩,
⟨some 29, .mov (.t 6), none⟩,
⟨some 30, .iadr 3 (.t 28) (.t 29), none⟩,
⟨some 31, .load (some 3) (.t 30), none⟩,
⟨some 32, .mkrow 3 1 [.int .i64 0, .int .i64 0, .int .i64 0] [(0, (.t 31))], none⟩,
⟨some 33, .append 3 (.t 26) (.t 32), none⟩,
⟨some 34, .fadr 1 (.t 5), none⟩,
⟨none, .store 1 (.t 34) (.t 33), none⟩] [1, 2, 4, 5, 6])
.skip)))
(.region none [
⟨some 15, .mov (.t 6), none⟩,
⟨some 16, .bin .add (.t 15) (.c (.int .i64 1)), none⟩,
⟨some 6, .mov (.t 16), none⟩] [1, 2, 4, 5, 6]))))))
(.seq
(.region none [
⟨some 35, .load (some 2) (.t 5), none⟩,
⟨none, .store 2 (.t 4) (.t 35), none⟩] [4])
.ret)))),
[.cell 4 (some 2)]⟩

theorem x87_ok : chkFunc Go.Proofs.Tryz.prog (fun _ => true) x87 87 = true := by decide +kernel

/-- peloton/pelotonref09.DueAt -/
def x88 : XFunc := ⟨2,
(.seq
(.region none [
⟨some 2, .box (.t 0), none⟩,
⟨some 4, .mov (.c (.int .i64 0)), none⟩] [1, 2])
(.seq
(.seq
(.region none [
⟨some 5, .mov (.c (.int .i64 0)), none⟩] [1, 2, 5])
(.block 0
(.loop [(1, none), (2, none), (5, none)]
(.seq
(.seq
(.region none [
⟨some 6, .mov (.t 5), none⟩,
⟨some 7, .fadr 10 (.t 2), none⟩,
⟨some 8, .load none (.t 7), none⟩,
⟨some 9, .len (.t 8), none⟩,
⟨some 10, .bin .lss (.t 6) (.t 9), none⟩] [1, 2, 5, 10])
(.cond (.t 10)
.skip
(.exit 0)))
(.seq
(.block 1
(.seq
(.region none [
⟨some 13, .fadr 10 (.t 2), none⟩,
⟨some 14, .load none (.t 13), none⟩,
⟨some 15, .mov (.t 5), none⟩,
⟨some 16, .iadr 3 (.t 14) (.t 15), none⟩,
⟨some 17, .fadr 0 (.t 16), none⟩,
⟨some 18, .load none (.t 17), none⟩,
⟨some 19, .mov (.t 1), none⟩,
⟨some 20, .bin .eql (.t 18) (.t 19), none⟩] [1, 2, 5, 20])
(.cond (.t 20)
(.seq
(.region none [
⟨some 21, .mov (.t 5), none⟩,
⟨some 4, .mov (.t 21), none⟩] [4])
.ret)
.skip)))
(.region none [
⟨some 11, .mov (.t 5), none⟩,
⟨some 12, .bin .add (.t 11) (.c (.int .i64 1)), none⟩,
⟨some 5, .mov (.t 12), none⟩] [1, 2, 5]))))))
(.seq
(.region none [
⟨some 4, .mov (.c (.int .i64 (-1))), none⟩] [4])
.ret))),
[.tmp 4]⟩

theorem x88_ok : chkFunc Go.Proofs.Tryz.prog (fun _ => true) x88 88 = true := by decide +kernel

/-- peloton/pelotonref07.Removed -/
def x89 : XFunc := ⟨2,
(.seq
(.region none [
⟨some 2, .box (.t 0), none⟩,
⟨some 3, .box (.t 1), none⟩,
⟨some 4, .alloc [.sl 1 true [], .sl 1 true [], .sl 1 true [], .sl 5 true [], .sl 1 true []], none⟩] [2, 3, 4])
(.seq
(.region none [
⟨some 8, .load (some 5) (.t 2), none⟩,
⟨some 9, .call .own 53 [(.t 8)], none⟩,
⟨some 5, .alloc [.sl 1 true [], .sl 1 true [], .sl 1 true [], .sl 5 true [], .sl 1 true []], none⟩,
⟨none, .store 5 (.t 5) (.t 9), none⟩] [3, 4, 5])
(.seq
(.region (some [0, 1, 0, 4, 15, 31, 0, 64, 192, 448, 63, 2047]) [
⟨some 10, .fadr 4 (.t 5), none⟩,
⟨some 11, .load none (.t 10), none⟩,
⟨some 12, .fadr 0 (.t 3), none⟩,
⟨some 13, .load none (.t 12), none⟩,
⟨some 14, .iadr 1 (.t 11) (.t 13), none⟩,
⟨some 15, .load none (.t 14), none⟩,
⟨some 16, .fadr 3 (.t 5), none⟩,
⟨some 17, .load none (.t 16), none⟩,
⟨some 18, .len (.t 17), none⟩,
⟨some 19, .bin .sub (.t 18) (.c (.int .i64 1)), none⟩,
⟨some 6, .mov (.t 15), none⟩,
⟨some 7, .mov (.t 19), none⟩] [3, 4, 5, 6, 7])
(.seq
(.seq
(.region none [
⟨some 20, .mov (.t 6), none⟩,
⟨some 21, .mov (.t 7), none⟩,
⟨some 22, .bin .neq (.t 20) (.t 21), none⟩] [3, 4, 5, 6, 7, 22])
(.cond (.t 22)
(.region none [
⟨some 23, .load (some 5) (.t 5), none⟩,
⟨some 24, .mov (.t 6), none⟩,
⟨some 25, .mov (.t 7), none⟩,
⟨some 26, .call .fp 146 [(.t 23), (.t 24), (.t 25)], none⟩] [3, 4, 5, 6, 7])
.skip))
(.seq
(.region none [
⟨some 27, .fadr 3 (.t 5), none⟩,
⟨some 28, .load none (.t 27), none⟩,
⟨some 29, .mov (.t 7), none⟩,
⟨some 30, .slc 5 (.t 28) none (some (.t 29)) none, none⟩,
⟨some 31, .fadr 3 (.t 5), none⟩,
⟨none, .store 1 (.t 31) (.t 30), none⟩] [3, 4, 5, 6, 7])
(.seq
(.region none [
⟨some 32, .fadr 4 (.t 5), none⟩,
⟨some 33, .load none (.t 32), none⟩,
⟨some 34, .fadr 0 (.t 3), none⟩,
⟨some 35, .load none (.t 34), none⟩,
⟨some 36, .iadr 1 (.t 33) (.t 35), none⟩,
⟨none, .store 1 (.t 36) (.c (.int .i64 (-1))), none⟩] [3, 4, 5, 6, 7])
(.seq
(.region none [
⟨some 37, .fadr 0 (.t 5), none⟩,
⟨some 38, .load (some 3) (.t 37), none⟩,
⟨some 39, .load (some 2) (.t 3), none⟩,
⟨some 40, .call .pur 147 [(.t 38), (.t 39)], none⟩,
⟨some 41, .fadr 0 (.t 5), none⟩,
⟨none, .store 3 (.t 41) (.t 40), none⟩] [4, 5, 6, 7])
(.seq
(.seq
(.region none [
⟨some 42, .mov (.t 6), none⟩,
⟨some 43, .mov (.t 7), none⟩,
⟨some 44, .bin .neq (.t 42) (.t 43), none⟩] [4, 5, 6, 44])
(.cond (.t 44)
(.region (some [0, 0, 0, 6, 15]) [
⟨some 45, .load (some 5) (.t 5), none⟩,
⟨some 46, .load (some 5) (.t 5), none⟩,
⟨some 47, .mov (.t 6), none⟩,
⟨some 48, .call .fp 149 [(.t 46), (.t 47)], none⟩,
⟨some 49, .call .fp 148 [(.t 45), (.t 48)], none⟩] [4, 5])
.skip))
(.seq
(.region none [
⟨some 50, .load (some 5) (.t 5), none⟩,
⟨none, .store 5 (.t 4) (.t 50), none⟩] [4])
.ret))))))))),
[.cell 4 (some 5)]⟩

theorem x89_ok : chkFunc Go.Proofs.Tryz.prog (fun _ => true) x89 89 = true := by decide +kernel

/-- peloton/pelotonref02.Leads -/
def x91 : XFunc := ⟨3,
(.seq
(.region none [
⟨some 3, .box (.t 0), none⟩,
⟨some 4, .box (.t 1), none⟩,
⟨some 5, .box (.t 2), none⟩,
⟨some 6, .mov (.c (.bool false)), none⟩] [3, 4, 5])
(.seq
(.region none [
⟨some 8, .load (some 3) (.t 3), none⟩,
⟨some 9, .load (some 3) (.t 4), none⟩,
⟨some 10, .load (some 2) (.t 5), none⟩,
⟨some 11, .call .pur 150 [(.t 8), (.t 9), (.t 10)], none⟩,
⟨some 7, .mov (.t 11), none⟩] [3, 4, 7])
(.seq
(.seq
(.region none [
⟨some 12, .mov (.t 7), none⟩,
⟨some 13, .bin .neq (.t 12) (.c (.int .i64 0)), none⟩] [3, 4, 7, 13])
(.cond (.t 13)
(.seq
(.region none [
⟨some 14, .mov (.t 7), none⟩,
⟨some 15, .bin .gtr (.t 14) (.c (.int .i64 0)), none⟩,
⟨some 6, .mov (.t 15), none⟩] [6])
.ret)
.skip))
(.seq
(.seq
(.region none [
⟨some 16, .fadr 2 (.t 3), none⟩,
⟨some 17, .load none (.t 16), none⟩,
⟨some 18, .fadr 2 (.t 4), none⟩,
⟨some 19, .load none (.t 18), none⟩,
⟨some 20, .bin .neq (.t 17) (.t 19), none⟩] [3, 4, 20])
(.cond (.t 20)
(.seq
(.region none [
⟨some 21, .fadr 2 (.t 3), none⟩,
⟨some 22, .load none (.t 21), none⟩,
⟨some 23, .fadr 2 (.t 4), none⟩,
⟨some 24, .load none (.t 23), none⟩,
⟨some 25, .bin .gtr (.t 22) (.t 24), none⟩,
⟨some 6, .mov (.t 25), none⟩] [6])
.ret)
.skip))
(.seq
(.region none [
⟨some 26, .fadr 0 (.t 3), none⟩,
⟨some 27, .load none (.t 26), none⟩,
⟨some 28, .fadr 0 (.t 4), none⟩,
⟨some 29, .load none (.t 28), none⟩,
⟨some 30, .bin .lss (.t 27) (.t 29), none⟩,
⟨some 6, .mov (.t 30), none⟩] [6])
.ret))))),
[.tmp 6]⟩

theorem x91_ok : chkFunc Go.Proofs.Tryz.prog (fun _ => true) x91 91 = true := by decide +kernel

/-- peloton/pelotonref01.common -/
def x93 : XFunc := ⟨2,
(.seq
(.region none [
⟨some 4, .mov (.c (.int .u64 0)), none⟩] [0, 1])
(.seq
(.block 0
(.loop [(0, none), (1, none)]
(.seq
(.seq
(.region none [
⟨some 5, .mov (.t 1), none⟩,
⟨some 6, .bin .neq (.t 5) (.c (.int .u64 0)), none⟩] [0, 1, 6])
(.cond (.t 6)
.skip
(.exit 0)))
(.block 1
(.region (some [0, 0, 0, 6, 3, 31]) [
⟨some 7, .mov (.t 1), none⟩,
⟨some 8, .mov (.t 0), none⟩,
⟨some 9, .mov (.t 1), none⟩,
⟨some 10, .bin .rem (.t 8) (.t 9), none⟩,
⟨some 0, .mov (.t 7), none⟩,
⟨some 1, .mov (.t 10), none⟩] [0, 1])))))
(.seq
(.region none [
⟨some 11, .mov (.t 0), none⟩,
⟨some 4, .mov (.t 11), none⟩] [4])
.ret))),
[.tmp 4]⟩

theorem x93_ok : chkFunc Go.Proofs.Tryz.prog (fun _ => true) x93 93 = true := by decide +kernel

/-- peloton/pelotonref01.size -/
def x94 : XFunc := ⟨1,
(.seq
(.region none [
⟨some 2, .mov (.c (.int .u64 0)), none⟩] [0])
(.seq
(.seq
(.region none [
⟨some 3, .mov (.t 0), none⟩,
⟨some 4, .bin .lss (.t 3) (.c (.int .i64 0)), none⟩] [0, 4])
(.cond (.t 4)
(.seq
(.region none [
⟨some 5, .mov (.t 0), none⟩,
⟨some 6, .bin .add (.t 5) (.c (.int .i64 1)), none⟩,
⟨some 7, .un .neg (.t 6), none⟩,
⟨some 8, .conv .u64 (.t 7), none⟩,
⟨some 9, .bin .add (.t 8) (.c (.int .u64 1)), none⟩,
⟨some 2, .mov (.t 9), none⟩] [2])
.ret)
.skip))
(.seq
(.region none [
⟨some 10, .mov (.t 0), none⟩,
⟨some 11, .conv .u64 (.t 10), none⟩,
⟨some 2, .mov (.t 11), none⟩] [2])
.ret))),
[.tmp 2]⟩

theorem x94_ok : chkFunc Go.Proofs.Tryz.prog (fun _ => true) x94 94 = true := by decide +kernel

/-- peloton/pelotonref06.Twin -/
def x99 : XFunc := ⟨1,
(.seq
(.region none [
⟨some 1, .box (.t 0), none⟩,
⟨some 2, .alloc [.sl 1 true [], .sl 1 true [], .sl 1 true []], none⟩] [1, 2])
(.seq
(.region (some [0, 0, 2, 7, 0, 0, 32, 127, 0, 0, 512, 2047, 4095, 8191]) [
⟨some 3, .mkrow 1 0 [.int .i64 0] [], none⟩,
⟨some 4, .fadr 0 (.t 1), none⟩,
⟨some 5, .load none (.t 4), none⟩,
⟨some 6, .append 1 (.t 3) (.t 5), none⟩,
⟨some 7, .mkrow 1 0 [.bool false] [], none⟩,
⟨some 8, .fadr 1 (.t 1), none⟩,
⟨some 9, .load none (.t 8), none⟩,
⟨some 10, .append 1 (.t 7) (.t 9), none⟩,
⟨some 11, .mkrow 1 0 [.int .i64 0] [], none⟩,
⟨some 12, .fadr 2 (.t 1), none⟩,
⟨some 13, .load none (.t 12), none⟩,
⟨some 14, .append 1 (.t 11) (.t 13), none⟩,
⟨some 15, .build [.sl 1 true [], .sl 1 true [], .sl 1 true []] [(0, 1, (.t 6)), (1, 1, (.t 10)), (2, 1, (.t 14))], none⟩,
⟨none, .store 3 (.t 2) (.t 15), none⟩] [2])
.ret)),
[.cell 2 (some 3)]⟩

theorem x99_ok : chkFunc Go.Proofs.Tryz.prog (fun _ => true) x99 99 = true := by decide +kernel

/-- peloton/cert.Check -/
def x100 : XFunc := ⟨1,
(.seq
(.region none [
⟨some 1, .box (.t 0), none⟩,
⟨some 2, .mov (.c (.int .i64 0)), none⟩] [1])
(.seq
(.seq
(.region none [
⟨some 7, .fadr 1 (.t 1), none⟩,
⟨some 8, .load none (.t 7), none⟩,
⟨some 9, .len (.t 8), none⟩,
⟨some 10, .bin .gtr (.t 9) (.c (.int .i64 200)), none⟩,
⟨some 11, .mov (.t 10), none⟩,
⟨some 12, .fadr 0 (.t 1), (some (11, false))⟩,
⟨some 13, .load none (.t 12), (some (11, false))⟩,
⟨some 14, .bin .lss (.t 13) (.c (.int .i64 0)), (some (11, false))⟩,
⟨some 15, .pick (.t 11) (.c (.bool true)) (.t 14), none⟩,
⟨some 16, .mov (.t 15), none⟩,
⟨some 17, .fadr 0 (.t 1), (some (16, false))⟩,
⟨some 18, .load none (.t 17), (some (16, false))⟩,
⟨some 19, .bin .gtr (.t 18) (.c (.int .i64 1000000)), (some (16, false))⟩,
⟨some 20, .pick (.t 16) (.c (.bool true)) (.t 19), none⟩] [1, 20])
(.cond (.t 20)
(.seq
(.region none [
⟨some 2, .mov (.c (.int .i64 8)), none⟩] [2])
.ret)
.skip))
(.seq
(.region none [
⟨some 21, .mkm, none⟩,
⟨some 3, .mov (.t 21), none⟩,
⟨some 4, .mov (.c (.int .i64 (-1))), none⟩] [1, 3, 4])
(.seq
(.seq
(.region none [
⟨some 22, .fadr 1 (.t 1), none⟩,
⟨some 23, .load none (.t 22), none⟩,
⟨some 24, .len (.t 23), none⟩,
⟨some 25, .mov (.c (.int .i64 0)), none⟩] [1, 3, 4, 23, 24, 25])
(.block 0
(.loop [(1, none), (3, none), (4, none), (23, none), (24, none), (25, none)]
(.seq
(.region none [
⟨some 26, .bin .lss (.t 25) (.t 24), none⟩] [1, 3, 4, 23, 24, 25, 26])
(.seq
(.cond (.t 26)
.skip
(.exit 0))
(.seq
(.block 1
(.seq
(.region none [
⟨some 27, .iadr 3 (.t 23) (.t 25), none⟩,
⟨some 28, .load (some 3) (.t 27), none⟩,
⟨some 6, .alloc [.int .i64 0, .int .i64 0, .int .i64 0], none⟩,
⟨none, .store 3 (.t 6) (.t 28), none⟩] [1, 3, 4, 6, 23, 24, 25])
(.seq
(.seq
(.region none [
⟨some 29, .fadr 1 (.t 6), none⟩,
⟨some 30, .load (some 2) (.t 29), none⟩,
⟨some 31, .call .pur 160 [(.t 30)], none⟩,
⟨some 32, .un .not (.t 31), none⟩,
⟨some 33, .mov (.t 32), none⟩,
⟨some 34, .mov (.t 3), (some (33, false))⟩,
⟨some 35, .fadr 1 (.t 6), (some (33, false))⟩,
⟨some 36, .load (some 2) (.t 35), (some (33, false))⟩,
⟨some 37, .lookup (some 2) (.bool false) false (.t 34) (.t 36), (some (33, false))⟩,
⟨some 38, .pick (.t 33) (.c (.bool true)) (.t 37), none⟩,
⟨some 39, .mov (.t 38), none⟩,
⟨some 40, .fadr 0 (.t 6), (some (39, false))⟩,
⟨some 41, .load none (.t 40), (some (39, false))⟩,
⟨some 42, .mov (.t 4), (some (39, false))⟩,
⟨some 43, .bin .leq (.t 41) (.t 42), (some (39, false))⟩,
⟨some 44, .pick (.t 39) (.c (.bool true)) (.t 43), none⟩,
⟨some 45, .mov (.t 44), none⟩,
⟨some 46, .fadr 0 (.t 6), (some (45, false))⟩,
⟨some 47, .load none (.t 46), (some (45, false))⟩,
⟨some 48, .fadr 0 (.t 1), (some (45, false))⟩,
⟨some 49, .load none (.t 48), (some (45, false))⟩,
⟨some 50, .bin .geq (.t 47) (.t 49), (some (45, false))⟩,
⟨some 51, .pick (.t 45) (.c (.bool true)) (.t 50), none⟩] [1, 3, 6, 23, 24, 25, 51])
(.cond (.t 51)
(.seq
(.region none [
⟨some 2, .mov (.c (.int .i64 8)), none⟩] [2])
.ret)
.skip))
(.region (some [0, 0, 2, 0, 8, 7, 63]) [
⟨some 52, .mov (.t 3), none⟩,
⟨some 53, .fadr 1 (.t 6), none⟩,
⟨some 54, .load (some 2) (.t 53), none⟩,
⟨some 55, .fadr 0 (.t 6), none⟩,
⟨some 56, .load none (.t 55), none⟩,
⟨none, .mapu (some 2) (.t 52) (.t 54) (.c (.bool true)), none⟩,
⟨some 4, .mov (.t 56), none⟩] [1, 3, 4, 23, 24, 25]))))
(.region none [
⟨some 57, .bin .add (.t 25) (.c (.int .i64 1)), none⟩,
⟨some 25, .mov (.t 57), none⟩] [1, 3, 4, 23, 24, 25])))))))
(.seq
(.region none [
⟨some 2, .mov (.c (.int .i64 0)), none⟩] [2])
.ret))))),
[.tmp 2]⟩

theorem x100_ok : chkFunc Go.Proofs.Tryz.prog (fun _ => true) x100 100 = true := by decide +kernel

/-- peloton/agenda.Check -/
def x101 : XFunc := ⟨1,
(.seq
(.region none [
⟨some 1, .box (.t 0), none⟩,
⟨some 2, .mov (.c (.int .i64 0)), none⟩] [1])
(.seq
(.seq
(.region none [
⟨some 8, .fadr 0 (.t 1), none⟩,
⟨some 9, .load (some 3) (.t 8), none⟩,
⟨some 10, .call .pur 161 [(.t 9)], none⟩,
⟨some 11, .bin .neq (.t 10) (.c (.int .i64 0)), none⟩,
⟨some 12, .mov (.t 11), none⟩,
⟨some 13, .fadr 4 (.t 1), (some (12, false))⟩,
⟨some 14, .load none (.t 13), (some (12, false))⟩,
⟨some 15, .len (.t 14), (some (12, false))⟩,
⟨some 16, .fadr 0 (.t 1), (some (12, false))⟩,
⟨some 17, .fadr 1 (.t 16), (some (12, false))⟩,
⟨some 18, .load none (.t 17), (some (12, false))⟩,
⟨some 19, .len (.t 18), (some (12, false))⟩,
⟨some 20, .bin .neq (.t 15) (.t 19), (some (12, false))⟩,
⟨some 21, .pick (.t 12) (.c (.bool true)) (.t 20), none⟩,
⟨some 22, .mov (.t 21), none⟩,
⟨some 23, .fadr 3 (.t 1), (some (22, false))⟩,
⟨some 24, .load none (.t 23), (some (22, false))⟩,
⟨some 25, .len (.t 24), (some (22, false))⟩,
⟨some 26, .fadr 0 (.t 1), (some (22, false))⟩,
⟨some 27, .fadr 1 (.t 26), (some (22, false))⟩,
⟨some 28, .load none (.t 27), (some (22, false))⟩,
⟨some 29, .len (.t 28), (some (22, false))⟩,
⟨some 30, .fadr 0 (.t 1), (some (22, false))⟩,
⟨some 31, .fadr 2 (.t 30), (some (22, false))⟩,
⟨some 32, .load none (.t 31), (some (22, false))⟩,
⟨some 33, .len (.t 32), (some (22, false))⟩,
⟨some 34, .bin .sub (.t 29) (.t 33), (some (22, false))⟩,
⟨some 35, .bin .neq (.t 25) (.t 34), (some (22, false))⟩,
⟨some 36, .pick (.t 22) (.c (.bool true)) (.t 35), none⟩] [1, 36])
(.cond (.t 36)
(.seq
(.region none [
⟨some 2, .mov (.c (.int .i64 8)), none⟩] [2])
.ret)
.skip))
(.seq
(.seq
(.region none [
⟨some 37, .fadr 4 (.t 1), none⟩,
⟨some 38, .load none (.t 37), none⟩,
⟨some 39, .len (.t 38), none⟩,
⟨some 40, .mov (.c (.int .i64 0)), none⟩] [1, 38, 39, 40])
(.block 0
(.loop [(1, none), (38, none), (39, none), (40, none)]
(.seq
(.region none [
⟨some 41, .bin .lss (.t 40) (.t 39), none⟩] [1, 38, 39, 40, 41])
(.seq
(.cond (.t 41)
.skip
(.exit 0))
(.seq
(.block 1
(.seq
(.region none [
⟨some 42, .mov (.t 40), none⟩,
⟨some 43, .iadr 1 (.t 38) (.t 40), none⟩,
⟨some 44, .load none (.t 43), none⟩,
⟨some 3, .mov (.t 42), none⟩,
⟨some 4, .mov (.t 44), none⟩] [1, 3, 4, 38, 39, 40])
(.seq
(.seq
(.region none [
⟨some 45, .fadr 0 (.t 1), none⟩,
⟨some 46, .fadr 1 (.t 45), none⟩,
⟨some 47, .load none (.t 46), none⟩,
⟨some 48, .mov (.t 3), none⟩,
⟨some 49, .iadr 1 (.t 47) (.t 48), none⟩,
⟨some 50, .load none (.t 49), none⟩,
⟨some 51, .un .not (.t 50), none⟩] [1, 3, 4, 38, 39, 40, 51])
(.cond (.t 51)
(.seq
(.seq
(.region none [
⟨some 52, .mov (.t 4), none⟩,
⟨some 53, .bin .neq (.t 52) (.c (.int .i64 (-1))), none⟩] [1, 38, 39, 40, 53])
(.cond (.t 53)
(.seq
(.region none [
⟨some 2, .mov (.c (.int .i64 8)), none⟩] [2])
.ret)
.skip))
(.exit 1))
.skip))
(.seq
(.region (some [0, 1, 3, 7, 7, 23, 55, 127, 255, 511, 1023, 2047, 1023, 8191, 16383, 32767, 1023, 1023, 132095, 394239, 1023, 1967103, 4064255, 8324095, 16777215, 33554431]) [
⟨some 54, .mov (.t 4), none⟩,
⟨some 55, .bin .lss (.t 54) (.c (.int .i64 0)), none⟩,
⟨some 56, .mov (.t 55), none⟩,
⟨some 57, .mov (.t 4), (some (56, false))⟩,
⟨some 58, .fadr 3 (.t 1), (some (56, false))⟩,
⟨some 59, .load none (.t 58), (some (56, false))⟩,
⟨some 60, .len (.t 59), (some (56, false))⟩,
⟨some 61, .bin .geq (.t 57) (.t 60), (some (56, false))⟩,
⟨some 62, .pick (.t 56) (.c (.bool true)) (.t 61), none⟩,
⟨some 63, .mov (.t 62), none⟩,
⟨some 64, .fadr 3 (.t 1), (some (63, false))⟩,
⟨some 65, .load none (.t 64), (some (63, false))⟩,
⟨some 66, .mov (.t 4), (some (63, false))⟩,
⟨some 67, .iadr 5 (.t 65) (.t 66), (some (63, false))⟩,
⟨some 68, .fadr 3 (.t 67), (some (63, false))⟩,
⟨some 69, .load (some 2) (.t 68), (some (63, false))⟩,
⟨some 70, .mov (.t 3), (some (63, false))⟩,
⟨some 71, .fadr 0 (.t 1), (some (63, false))⟩,
⟨some 72, .fadr 0 (.t 71), (some (63, false))⟩,
⟨some 73, .load none (.t 72), (some (63, false))⟩,
⟨some 74, .mov (.t 3), (some (63, false))⟩,
⟨some 75, .iadr 1 (.t 73) (.t 74), (some (63, false))⟩,
⟨some 76, .load none (.t 75), (some (63, false))⟩,
⟨some 77, .build [.int .i64 0, .int .i64 0] [(0, 1, (.t 70)), (1, 1, (.t 76))], (some (63, false))⟩,
⟨some 78, .eqc 2 true (.t 69) (.t 77), (some (63, false))⟩,
⟨some 79, .pick (.t 63) (.c (.bool true)) (.t 78), none⟩] [1, 38, 39, 40, 79])
(.cond (.t 79)
(.seq
(.region none [
⟨some 2, .mov (.c (.int .i64 8)), none⟩] [2])
.ret)
.skip)))))
(.region none [
⟨some 80, .bin .add (.t 40) (.c (.int .i64 1)), none⟩,
⟨some 40, .mov (.t 80), none⟩] [1, 38, 39, 40])))))))
(.seq
(.region none [
⟨some 81, .mkm, none⟩,
⟨some 5, .mov (.t 81), none⟩] [1, 5])
(.seq
(.seq
(.region none [
⟨some 82, .fadr 3 (.t 1), none⟩,
⟨some 83, .load none (.t 82), none⟩,
⟨some 84, .len (.t 83), none⟩,
⟨some 85, .mov (.c (.int .i64 0)), none⟩] [1, 5, 83, 84, 85])
(.block 2
(.loop [(1, none), (5, none), (83, none), (84, none), (85, none)]
(.seq
(.region none [
⟨some 86, .bin .lss (.t 85) (.t 84), none⟩] [1, 5, 83, 84, 85, 86])
(.seq
(.cond (.t 86)
.skip
(.exit 2))
(.seq
(.block 3
(.seq
(.region none [
⟨some 87, .mov (.t 85), none⟩,
⟨some 88, .iadr 5 (.t 83) (.t 85), none⟩,
⟨some 89, .load (some 5) (.t 88), none⟩,
⟨some 7, .alloc [.int .i64 0, .int .i64 0, .int .i64 0, .int .i64 0, .int .i64 0], none⟩,
⟨some 6, .mov (.t 87), none⟩,
⟨none, .store 5 (.t 7) (.t 89), none⟩] [1, 5, 6, 7, 83, 84, 85])
(.seq
(.seq
(.region none [
⟨some 90, .fadr 0 (.t 7), none⟩,
⟨some 91, .load (some 2) (.t 90), none⟩,
⟨some 92, .call .pur 65 [(.t 91)], none⟩,
⟨some 93, .bin .neq (.t 92) (.c (.int .i64 0)), none⟩,
⟨some 94, .mov (.t 93), none⟩,
⟨some 95, .fadr 2 (.t 7), (some (94, false))⟩,
⟨some 96, .load none (.t 95), (some (94, false))⟩,
⟨some 97, .bin .lss (.t 96) (.c (.int .i64 0)), (some (94, false))⟩,
⟨some 98, .pick (.t 94) (.c (.bool true)) (.t 97), none⟩,
⟨some 99, .mov (.t 98), none⟩,
⟨some 100, .fadr 2 (.t 7), (some (99, false))⟩,
⟨some 101, .load none (.t 100), (some (99, false))⟩,
⟨some 102, .bin .gtr (.t 101) (.c (.int .i64 1000000)), (some (99, false))⟩,
⟨some 103, .pick (.t 99) (.c (.bool true)) (.t 102), none⟩,
⟨some 104, .mov (.t 103), none⟩,
⟨some 105, .mov (.t 5), (some (104, false))⟩,
⟨some 106, .fadr 2 (.t 7), (some (104, false))⟩,
⟨some 107, .load none (.t 106), (some (104, false))⟩,
⟨some 108, .lookup none (.bool false) false (.t 105) (.t 107), (some (104, false))⟩,
⟨some 109, .pick (.t 104) (.c (.bool true)) (.t 108), none⟩] [1, 5, 6, 7, 83, 84, 85, 109])
(.cond (.t 109)
(.seq
(.region none [
⟨some 2, .mov (.c (.int .i64 8)), none⟩] [2])
.ret)
.skip))
(.seq
(.region none [
⟨some 110, .mov (.t 5), none⟩,
⟨some 111, .fadr 2 (.t 7), none⟩,
⟨some 112, .load none (.t 111), none⟩,
⟨none, .mapu none (.t 110) (.t 112) (.c (.bool true)), none⟩] [1, 5, 6, 7, 83, 84, 85])
(.seq
(.region (some [0, 1, 3, 7, 7, 23, 7, 71, 199, 503, 1015, 2047, 4095, 8191]) [
⟨some 113, .mov (.t 6), none⟩,
⟨some 114, .bin .gtr (.t 113) (.c (.int .i64 0)), none⟩,
⟨some 115, .mov (.t 114), none⟩,
⟨some 116, .load (some 5) (.t 7), (some (115, true))⟩,
⟨some 117, .fadr 3 (.t 1), (some (115, true))⟩,
⟨some 118, .load none (.t 117), (some (115, true))⟩,
⟨some 119, .mov (.t 6), (some (115, true))⟩,
⟨some 120, .bin .sub (.t 119) (.c (.int .i64 1)), (some (115, true))⟩,
⟨some 121, .bin .quo (.t 120) (.c (.int .i64 2)), (some (115, true))⟩,
⟨some 122, .iadr 5 (.t 118) (.t 121), (some (115, true))⟩,
⟨some 123, .load (some 5) (.t 122), (some (115, true))⟩,
⟨some 124, .call .pur 162 [(.t 116), (.t 123)], (some (115, true))⟩,
⟨some 125, .bin .lss (.t 124) (.c (.int .i64 0)), (some (115, true))⟩,
⟨some 126, .pick (.t 115) (.t 125) (.c (.bool false)), none⟩] [1, 5, 83, 84, 85, 126])
(.cond (.t 126)
(.seq
(.region none [
⟨some 2, .mov (.c (.int .i64 8)), none⟩] [2])
.ret)
.skip))))))
(.region none [
⟨some 127, .bin .add (.t 85) (.c (.int .i64 1)), none⟩,
⟨some 85, .mov (.t 127), none⟩] [1, 5, 83, 84, 85])))))))
(.seq
(.region none [
⟨some 2, .mov (.c (.int .i64 0)), none⟩] [2])
.ret)))))),
[.tmp 2]⟩

theorem x101_ok : chkFunc Go.Proofs.Tryz.prog (fun _ => true) x101 101 = true := by decide +kernel

/-- peloton/clock.when -/
def x102 : XFunc := ⟨3,
(.seq
(.region none [
⟨some 3, .box (.t 0), none⟩,
⟨some 4, .box (.t 1), none⟩,
⟨some 5, .box (.t 2), none⟩,
⟨some 6, .alloc [.int .i64 0, .int .i64 0], none⟩,
⟨some 7, .mov (.c (.bool false)), none⟩,
⟨some 8, .mov (.c (.int .i64 0)), none⟩] [3, 4, 5, 6])
(.seq
(.region (some [0, 0, 2, 7, 0, 0, 32, 127, 0, 511, 1023, 1023, 1023, 8191, 16383, 32767]) [
⟨some 9, .load (some 1) (.t 3), none⟩,
⟨some 10, .fadr 1 (.t 4), none⟩,
⟨some 11, .load none (.t 10), none⟩,
⟨some 12, .call .pur 164 [(.t 9), (.t 11)], none⟩,
⟨some 13, .load (some 1) (.t 3), none⟩,
⟨some 14, .fadr 0 (.t 4), none⟩,
⟨some 15, .load none (.t 14), none⟩,
⟨some 16, .call .pur 164 [(.t 13), (.t 15)], none⟩,
⟨some 17, .load (some 2) (.t 5), none⟩,
⟨some 18, .call .pur 163 [(.t 12), (.t 16), (.t 17)], none⟩,
⟨some 19, .ext 0 (.t 18), none⟩,
⟨some 20, .ext 1 (.t 18), none⟩,
⟨some 21, .ext 2 (.t 18), none⟩,
⟨none, .store 2 (.t 6) (.t 19), none⟩,
⟨some 7, .mov (.t 20), none⟩,
⟨some 8, .mov (.t 21), none⟩] [6, 7, 8])
.ret)),
[.cell 6 (some 2), .tmp 7, .tmp 8]⟩

theorem x102_ok : chkFunc Go.Proofs.Tryz.prog (fun _ => true) x102 102 = true := by decide +kernel

/-- peloton/course.Check -/
def x103 : XFunc := ⟨1,
(.seq
(.region none [
⟨some 1, .box (.t 0), none⟩,
⟨some 2, .mov (.c (.int .i64 0)), none⟩] [1])
(.seq
(.region none [
⟨some 3, .mov (.c (.clo 165 [] [])), none⟩] [1, 3])
(.seq
(.seq
(.region none [
⟨some 4, .fadr 0 (.t 1), none⟩,
⟨some 5, .load none (.t 4), none⟩,
⟨some 6, .bin .lss (.t 5) (.c (.int .i64 0)), none⟩,
⟨some 7, .mov (.t 6), none⟩,
⟨some 8, .fadr 0 (.t 1), (some (7, false))⟩,
⟨some 9, .load none (.t 8), (some (7, false))⟩,
⟨some 10, .bin .gtr (.t 9) (.c (.int .i64 65535)), (some (7, false))⟩,
⟨some 11, .pick (.t 7) (.c (.bool true)) (.t 10), none⟩,
⟨some 12, .mov (.t 11), none⟩,
⟨some 13, .mov (.t 3), (some (12, false))⟩,
⟨some 14, .fadr 1 (.t 1), (some (12, false))⟩,
⟨some 15, .load none (.t 14), (some (12, false))⟩,
⟨some 16, .callv (.t 13) [(.t 15)], (some (12, false))⟩,
⟨some 17, .pick (.t 12) (.c (.bool true)) (.t 16), none⟩,
⟨some 18, .mov (.t 17), none⟩,
⟨some 19, .mov (.t 3), (some (18, false))⟩,
⟨some 20, .fadr 2 (.t 1), (some (18, false))⟩,
⟨some 21, .load none (.t 20), (some (18, false))⟩,
⟨some 22, .callv (.t 19) [(.t 21)], (some (18, false))⟩,
⟨some 23, .pick (.t 18) (.c (.bool true)) (.t 22), none⟩] [23])
(.cond (.t 23)
(.seq
(.region none [
⟨some 2, .mov (.c (.int .i64 8)), none⟩] [2])
.ret)
.skip))
(.seq
(.region none [
⟨some 2, .mov (.c (.int .i64 0)), none⟩] [2])
.ret)))),
[.tmp 2]⟩

theorem x103_ok : chkFunc Go.Proofs.Tryz.prog (fun _ => true) x103 103 = true := by decide +kernel

/-- slices.Index[[]peloton/api.Cert,peloton/api.Cert] -/
def x104 : XFunc := ⟨2,
(.seq
(.region none [
⟨some 3, .box (.t 1), none⟩,
⟨some 4, .mov (.c (.int .i64 0)), none⟩] [0, 3])
(.seq
(.seq
(.region none [
⟨some 6, .mov (.t 0), none⟩,
⟨some 7, .len (.t 6), none⟩,
⟨some 8, .mov (.c (.int .i64 0)), none⟩] [0, 3, 7, 8])
(.block 0
(.loop [(0, none), (3, none), (7, none), (8, none)]
(.seq
(.region none [
⟨some 9, .bin .lss (.t 8) (.t 7), none⟩] [0, 3, 7, 8, 9])
(.seq
(.cond (.t 9)
.skip
(.exit 0))
(.seq
(.block 1
(.seq
(.region none [
⟨some 10, .mov (.t 8), none⟩,
⟨some 5, .mov (.t 10), none⟩] [0, 3, 5, 7, 8])
(.seq
(.region (some [0, 0, 0, 6, 14, 31]) [
⟨some 11, .load (some 2) (.t 3), none⟩,
⟨some 12, .mov (.t 0), none⟩,
⟨some 13, .mov (.t 5), none⟩,
⟨some 14, .iadr 2 (.t 12) (.t 13), none⟩,
⟨some 15, .load (some 2) (.t 14), none⟩,
⟨some 16, .eqc 2 false (.t 11) (.t 15), none⟩] [0, 3, 5, 7, 8, 16])
(.cond (.t 16)
(.seq
(.region none [
⟨some 17, .mov (.t 5), none⟩,
⟨some 4, .mov (.t 17), none⟩] [4])
.ret)
.skip))))
(.region none [
⟨some 18, .bin .add (.t 8) (.c (.int .i64 1)), none⟩,
⟨some 8, .mov (.t 18), none⟩] [0, 3, 7, 8])))))))
(.seq
(.region none [
⟨some 4, .mov (.c (.int .i64 (-1))), none⟩] [4])
.ret))),
[.tmp 4]⟩

theorem x104_ok : chkFunc Go.Proofs.Tryz.prog (fun _ => true) x104 104 = true := by decide +kernel

/-- peloton/field.place -/
def x105 : XFunc := ⟨2,
(.seq
(.region none [
⟨some 2, .box (.t 0), none⟩,
⟨some 4, .mov (.c (.int .i64 0)), none⟩,
⟨some 5, .mov (.c (.int .i64 0)), none⟩] [1, 2])
(.seq
(.seq
(.region none [
⟨some 9, .load (some 1) (.t 2), none⟩,
⟨some 10, .call .pur 55 [(.t 9)], none⟩,
⟨some 6, .mov (.t 10), none⟩] [1, 2, 6])
(.seq
(.region none [
⟨some 11, .mov (.t 6), none⟩,
⟨some 12, .bin .neq (.t 11) (.c (.int .i64 0)), none⟩] [1, 2, 6, 12])
(.cond (.t 12)
(.seq
(.region none [
⟨some 13, .mov (.t 6), none⟩,
⟨some 4, .mov (.c (.int .i64 0)), none⟩,
⟨some 5, .mov (.t 13), none⟩] [4, 5])
.ret)
.skip)))
(.seq
(.region none [
⟨some 15, .load (some 1) (.t 2), none⟩,
⟨some 16, .mov (.t 1), none⟩,
⟨some 17, .call .pur 166 [(.t 15), (.t 16)], none⟩,
⟨some 14, .mov (.t 17), none⟩,
⟨some 18, .ext 0 (.t 14), none⟩,
⟨some 19, .ext 1 (.t 14), none⟩,
⟨some 7, .mov (.t 18), none⟩,
⟨some 8, .mov (.t 19), none⟩] [7, 8])
(.seq
(.seq
(.region none [
⟨some 20, .mov (.t 8), none⟩,
⟨some 21, .un .not (.t 20), none⟩] [7, 21])
(.cond (.t 21)
(.seq
(.region none [
⟨some 4, .mov (.c (.int .i64 0)), none⟩,
⟨some 5, .mov (.c (.int .i64 6)), none⟩] [4, 5])
.ret)
.skip))
(.seq
(.region none [
⟨some 22, .mov (.t 7), none⟩,
⟨some 4, .mov (.t 22), none⟩,
⟨some 5, .mov (.c (.int .i64 0)), none⟩] [4, 5])
.ret))))),
[.tmp 4, .tmp 5]⟩

theorem x105_ok : chkFunc Go.Proofs.Tryz.prog (fun _ => true) x105 105 = true := by decide +kernel

/-- peloton/clock.Retire -/
def x106 : XFunc := ⟨2,
(.seq
(.region none [
⟨some 2, .box (.t 0), none⟩,
⟨some 4, .alloc [.int .i64 0, .int .i64 0, .sl 3 true [], .int .i64 0, .sl 3 true [], .sl 1 true [], .sl 1 true [], .sl 1 true [], .sl 5 true [], .sl 1 true [], .sl 3 true []], none⟩,
⟨some 5, .mov (.c (.int .i64 0)), none⟩] [1, 2, 4])
(.seq
(.seq
(.region none [
⟨some 10, .load (some 11) (.t 2), none⟩,
⟨some 11, .call .pur 54 [(.t 10)], none⟩,
⟨some 6, .mov (.t 11), none⟩] [1, 2, 4, 6])
(.seq
(.region none [
⟨some 12, .mov (.t 6), none⟩,
⟨some 13, .bin .neq (.t 12) (.c (.int .i64 0)), none⟩] [1, 2, 4, 6, 13])
(.cond (.t 13)
(.seq
(.region none [
⟨some 14, .build [.int .i64 0, .int .i64 0, .sl 3 true [], .int .i64 0, .sl 3 true [], .sl 1 true [], .sl 1 true [], .sl 1 true [], .sl 5 true [], .sl 1 true [], .sl 3 true []] [], none⟩,
⟨some 15, .mov (.t 6), none⟩,
⟨none, .store 11 (.t 4) (.t 14), none⟩,
⟨some 5, .mov (.t 15), none⟩] [4, 5])
.ret)
.skip)))
(.seq
(.region none [
⟨some 17, .load (some 11) (.t 2), none⟩,
⟨some 18, .mov (.t 1), none⟩,
⟨some 19, .call .pur 167 [(.t 17), (.t 18)], none⟩,
⟨some 16, .mov (.t 19), none⟩,
⟨some 20, .ext 0 (.t 16), none⟩,
⟨some 21, .ext 1 (.t 16), none⟩,
⟨some 22, .ext 2 (.t 16), none⟩,
⟨some 7, .alloc [.int .i64 0, .int .i64 0, .sl 3 true [], .int .i64 0, .sl 3 true [], .sl 1 true [], .sl 1 true [], .sl 1 true [], .sl 5 true [], .sl 1 true [], .sl 3 true []], none⟩,
⟨some 8, .alloc [.int .i64 0, .int .i64 0], none⟩,
⟨none, .store 11 (.t 7) (.t 20), none⟩,
⟨none, .store 2 (.t 8) (.t 21), none⟩,
⟨some 9, .mov (.t 22), none⟩] [4, 7, 9])
(.seq
(.region none [
⟨some 23, .load (some 11) (.t 7), none⟩,
⟨some 24, .mov (.t 9), none⟩,
⟨none, .store 11 (.t 4) (.t 23), none⟩,
⟨some 5, .mov (.t 24), none⟩] [4, 5])
.ret)))),
[.cell 4 (some 11), .tmp 5]⟩

theorem x106_ok : chkFunc Go.Proofs.Tryz.prog (fun _ => true) x106 106 = true := by decide +kernel

/-- slices.Equal[[]peloton/api.Point,peloton/api.Point] -/
def x107 : XFunc := ⟨2,
(.seq
(.region none [
⟨some 4, .mov (.c (.bool false)), none⟩] [0, 1])
(.seq
(.seq
(.region none [
⟨some 6, .mov (.t 0), none⟩,
⟨some 7, .len (.t 6), none⟩,
⟨some 8, .mov (.t 1), none⟩,
⟨some 9, .len (.t 8), none⟩,
⟨some 10, .bin .neq (.t 7) (.t 9), none⟩] [0, 1, 10])
(.cond (.t 10)
(.seq
(.region none [
⟨some 4, .mov (.c (.bool false)), none⟩] [4])
.ret)
.skip))
(.seq
(.seq
(.region none [
⟨some 11, .mov (.t 0), none⟩,
⟨some 12, .len (.t 11), none⟩,
⟨some 13, .mov (.c (.int .i64 0)), none⟩] [0, 1, 12, 13])
(.block 0
(.loop [(0, none), (1, none), (12, none), (13, none)]
(.seq
(.region none [
⟨some 14, .bin .lss (.t 13) (.t 12), none⟩] [0, 1, 12, 13, 14])
(.seq
(.cond (.t 14)
.skip
(.exit 0))
(.seq
(.block 1
(.seq
(.region none [
⟨some 15, .mov (.t 13), none⟩,
⟨some 5, .mov (.t 15), none⟩] [0, 1, 5, 12, 13])
(.seq
(.region (some [0, 0, 3, 7, 0, 0, 48, 112, 255]) [
⟨some 16, .mov (.t 0), none⟩,
⟨some 17, .mov (.t 5), none⟩,
⟨some 18, .iadr 3 (.t 16) (.t 17), none⟩,
⟨some 19, .load (some 3) (.t 18), none⟩,
⟨some 20, .mov (.t 1), none⟩,
⟨some 21, .mov (.t 5), none⟩,
⟨some 22, .iadr 3 (.t 20) (.t 21), none⟩,
⟨some 23, .load (some 3) (.t 22), none⟩,
⟨some 24, .eqc 3 true (.t 19) (.t 23), none⟩] [0, 1, 12, 13, 24])
(.cond (.t 24)
(.seq
(.region none [
⟨some 4, .mov (.c (.bool false)), none⟩] [4])
.ret)
.skip))))
(.region none [
⟨some 25, .bin .add (.t 13) (.c (.int .i64 1)), none⟩,
⟨some 13, .mov (.t 25), none⟩] [0, 1, 12, 13])))))))
(.seq
(.region none [
⟨some 4, .mov (.c (.bool true)), none⟩] [4])
.ret)))),
[.tmp 4]⟩

theorem x107_ok : chkFunc Go.Proofs.Tryz.prog (fun _ => true) x107 107 = true := by decide +kernel

/-- peloton/clock.Alter -/
def x108 : XFunc := ⟨2,
(.seq
(.region none [
⟨some 2, .box (.t 0), none⟩,
⟨some 3, .box (.t 1), none⟩,
⟨some 4, .alloc [.int .i64 0, .int .i64 0, .sl 3 true [], .int .i64 0, .sl 3 true [], .sl 1 true [], .sl 1 true [], .sl 1 true [], .sl 5 true [], .sl 1 true [], .sl 3 true []], none⟩,
⟨some 5, .mov (.c (.int .i64 0)), none⟩] [2, 3, 4])
(.seq
(.seq
(.region none [
⟨some 19, .load (some 11) (.t 2), none⟩,
⟨some 20, .call .pur 54 [(.t 19)], none⟩,
⟨some 6, .mov (.t 20), none⟩] [2, 3, 4, 6])
(.seq
(.region none [
⟨some 21, .mov (.t 6), none⟩,
⟨some 22, .bin .neq (.t 21) (.c (.int .i64 0)), none⟩] [2, 3, 4, 6, 22])
(.cond (.t 22)
(.seq
(.region none [
⟨some 23, .build [.int .i64 0, .int .i64 0, .sl 3 true [], .int .i64 0, .sl 3 true [], .sl 1 true [], .sl 1 true [], .sl 1 true [], .sl 5 true [], .sl 1 true [], .sl 3 true []] [], none⟩,
⟨some 24, .mov (.t 6), none⟩,
⟨none, .store 11 (.t 4) (.t 23), none⟩,
⟨some 5, .mov (.t 24), none⟩] [4, 5])
.ret)
.skip)))
(.seq
(.seq
(.region none [
⟨some 25, .load (some 1) (.t 3), none⟩,
⟨some 26, .call .pur 55 [(.t 25)], none⟩,
⟨some 7, .mov (.t 26), none⟩] [2, 3, 4, 7])
(.seq
(.region none [
⟨some 27, .mov (.t 7), none⟩,
⟨some 28, .bin .neq (.t 27) (.c (.int .i64 0)), none⟩] [2, 3, 4, 7, 28])
(.cond (.t 28)
(.seq
(.region none [
⟨some 29, .build [.int .i64 0, .int .i64 0, .sl 3 true [], .int .i64 0, .sl 3 true [], .sl 1 true [], .sl 1 true [], .sl 1 true [], .sl 5 true [], .sl 1 true [], .sl 3 true []] [], none⟩,
⟨some 30, .mov (.t 7), none⟩,
⟨none, .store 11 (.t 4) (.t 29), none⟩,
⟨some 5, .mov (.t 30), none⟩] [4, 5])
.ret)
.skip)))
(.seq
(.seq
(.region none [
⟨some 31, .fadr 3 (.t 2), none⟩,
⟨some 32, .fadr 1 (.t 31), none⟩,
⟨some 33, .load none (.t 32), none⟩,
⟨some 34, .len (.t 33), none⟩,
⟨some 35, .mov (.c (.int .i64 0)), none⟩] [2, 3, 4, 33, 34, 35])
(.block 0
(.loop [(2, none), (3, none), (4, none), (33, none), (34, none), (35, none)]
(.seq
(.region none [
⟨some 36, .bin .lss (.t 35) (.t 34), none⟩] [2, 3, 4, 33, 34, 35, 36])
(.seq
(.cond (.t 36)
.skip
(.exit 0))
(.seq
(.block 1
(.seq
(.region none [
⟨some 37, .iadr 3 (.t 33) (.t 35), none⟩,
⟨some 38, .load (some 3) (.t 37), none⟩,
⟨some 9, .alloc [.int .i64 0, .int .i64 0, .int .i64 0], none⟩,
⟨none, .store 3 (.t 9) (.t 38), none⟩] [2, 3, 4, 9, 33, 34, 35])
(.seq
(.region none [
⟨some 39, .load (some 1) (.t 3), none⟩,
⟨some 40, .fadr 1 (.t 9), none⟩,
⟨some 41, .fadr 0 (.t 40), none⟩,
⟨some 42, .load none (.t 41), none⟩,
⟨some 43, .call .pur 164 [(.t 39), (.t 42)], none⟩,
⟨some 44, .fld none 0 (.t 43), none⟩,
⟨some 45, .bin .lss (.t 44) (.c (.int .i64 0)), none⟩,
⟨some 46, .mov (.t 45), none⟩,
⟨some 47, .load (some 1) (.t 3), (some (46, false))⟩,
⟨some 48, .fadr 1 (.t 9), (some (46, false))⟩,
⟨some 49, .fadr 1 (.t 48), (some (46, false))⟩,
⟨some 50, .load none (.t 49), (some (46, false))⟩,
⟨some 51, .call .pur 164 [(.t 47), (.t 50)], (some (46, false))⟩,
⟨some 52, .fld none 0 (.t 51), (some (46, false))⟩,
⟨some 53, .bin .lss (.t 52) (.c (.int .i64 0)), (some (46, false))⟩,
⟨some 54, .pick (.t 46) (.c (.bool true)) (.t 53), none⟩] [2, 3, 4, 33, 34, 35, 54])
(.cond (.t 54)
(.seq
(.region none [
⟨some 55, .build [.int .i64 0, .int .i64 0, .sl 3 true [], .int .i64 0, .sl 3 true [], .sl 1 true [], .sl 1 true [], .sl 1 true [], .sl 5 true [], .sl 1 true [], .sl 3 true []] [], none⟩,
⟨none, .store 11 (.t 4) (.t 55), none⟩,
⟨some 5, .mov (.c (.int .i64 6)), none⟩] [4, 5])
.ret)
.skip))))
(.region none [
⟨some 56, .bin .add (.t 35) (.c (.int .i64 1)), none⟩,
⟨some 35, .mov (.t 56), none⟩] [2, 3, 4, 33, 34, 35])))))))
(.seq
(.region none [
⟨some 57, .load (some 11) (.t 2), none⟩,
⟨some 58, .call .own 137 [(.t 57)], none⟩,
⟨some 10, .alloc [.int .i64 0, .int .i64 0, .sl 3 true [], .int .i64 0, .sl 3 true [], .sl 1 true [], .sl 1 true [], .sl 1 true [], .sl 5 true [], .sl 1 true [], .sl 3 true []], none⟩,
⟨none, .store 11 (.t 10) (.t 58), none⟩] [2, 3, 4, 10])
(.seq
(.region none [
⟨some 59, .fadr 0 (.t 3), none⟩,
⟨some 60, .load none (.t 59), none⟩,
⟨some 61, .call .pur 112 [(.t 60)], none⟩,
⟨some 62, .build [.sl 3 true []] [(0, 1, (.t 61))], none⟩,
⟨some 63, .fadr 2 (.t 10), none⟩,
⟨none, .store 1 (.t 63) (.t 62), none⟩,
⟨some 64, .fadr 10 (.t 10), none⟩,
⟨none, .store 1 (.t 64) (.c (.sl 3 true [])), none⟩] [2, 3, 4, 10])
(.seq
(.seq
(.region none [
⟨some 65, .fadr 3 (.t 2), none⟩,
⟨some 66, .fadr 1 (.t 65), none⟩,
⟨some 67, .load none (.t 66), none⟩,
⟨some 68, .len (.t 67), none⟩,
⟨some 69, .mov (.c (.int .i64 0)), none⟩] [2, 3, 4, 10, 67, 68, 69])
(.block 2
(.loop [(2, none), (3, none), (4, none), (10, none), (67, none), (68, none), (69, none)]
(.seq
(.region none [
⟨some 70, .bin .lss (.t 69) (.t 68), none⟩] [2, 3, 4, 10, 67, 68, 69, 70])
(.seq
(.cond (.t 70)
.skip
(.exit 2))
(.seq
(.block 3
(.seq
(.region none [
⟨some 71, .iadr 3 (.t 67) (.t 69), none⟩,
⟨some 72, .load (some 3) (.t 71), none⟩,
⟨some 12, .alloc [.int .i64 0, .int .i64 0, .int .i64 0], none⟩,
⟨none, .store 3 (.t 12) (.t 72), none⟩] [2, 3, 4, 10, 12, 67, 68, 69])
(.seq
(.region none [
⟨some 74, .load (some 1) (.t 3), none⟩,
⟨some 75, .fadr 1 (.t 12), none⟩,
⟨some 76, .load (some 2) (.t 75), none⟩,
⟨some 77, .fadr 0 (.t 2), none⟩,
⟨some 78, .load (some 2) (.t 77), none⟩,
⟨some 79, .call .pur 102 [(.t 74), (.t 76), (.t 78)], none⟩,
⟨some 73, .mov (.t 79), none⟩,
⟨some 80, .ext 0 (.t 73), none⟩,
⟨some 81, .ext 1 (.t 73), none⟩,
⟨some 82, .ext 2 (.t 73), none⟩,
⟨some 13, .alloc [.int .i64 0, .int .i64 0], none⟩,
⟨none, .store 2 (.t 13) (.t 80), none⟩,
⟨some 14, .mov (.t 81), none⟩,
⟨some 15, .mov (.t 82), none⟩] [2, 3, 4, 10, 12, 13, 14, 15, 67, 68, 69])
(.seq
(.region none [
⟨some 84, .fadr 10 (.t 2), none⟩,
⟨some 85, .load none (.t 84), none⟩,
⟨some 86, .fadr 0 (.t 12), none⟩,
⟨some 87, .load none (.t 86), none⟩,
⟨some 88, .call .pur 168 [(.t 85), (.t 87)], none⟩,
⟨some 83, .mov (.t 88), none⟩,
⟨some 89, .ext 0 (.t 83), none⟩,
⟨some 90, .ext 1 (.t 83), none⟩,
⟨some 16, .mov (.t 89), none⟩,
⟨some 17, .mov (.t 90), none⟩] [2, 3, 4, 10, 12, 13, 14, 15, 16, 17, 67, 68, 69])
(.seq
(.block 4
(.seq
(.region none [
⟨some 92, .mov (.t 14), none⟩,
⟨some 93, .mov (.t 92), none⟩,
⟨some 94, .mov (.t 17), (some (93, true))⟩,
⟨some 95, .pick (.t 93) (.t 94) (.c (.bool false)), none⟩,
⟨some 91, .mov (.t 95), none⟩] [2, 3, 4, 10, 12, 13, 14, 15, 16, 17, 67, 68, 69, 91])
(.cond (.t 91)
(.seq
(.region (some [0, 1, 0, 4, 0, 28, 60, 124, 0, 511, 1023, 2047, 2047, 4095, 12287, 32767]) [
⟨some 97, .fadr 5 (.t 10), none⟩,
⟨some 98, .load (some 5) (.t 97), none⟩,
⟨some 99, .fadr 10 (.t 2), none⟩,
⟨some 100, .load none (.t 99), none⟩,
⟨some 101, .mov (.t 16), none⟩,
⟨some 102, .iadr 3 (.t 100) (.t 101), none⟩,
⟨some 103, .fadr 1 (.t 102), none⟩,
⟨some 104, .load (some 2) (.t 103), none⟩,
⟨some 105, .load (some 2) (.t 13), none⟩,
⟨some 106, .call .pur 169 [(.t 98), (.t 104), (.t 105)], none⟩,
⟨some 96, .mov (.t 106), none⟩,
⟨some 107, .ext 0 (.t 96), none⟩,
⟨some 108, .ext 1 (.t 96), none⟩,
⟨some 109, .fadr 5 (.t 10), none⟩,
⟨none, .store 5 (.t 109) (.t 107), none⟩,
⟨some 15, .mov (.t 108), none⟩] [2, 3, 4, 10, 15, 16, 67, 68, 69])
(.region (some [0, 1, 0, 4, 0, 28, 60, 124, 255, 511, 1023]) [
⟨some 110, .fadr 10 (.t 10), none⟩,
⟨some 111, .load none (.t 110), none⟩,
⟨some 112, .fadr 10 (.t 2), none⟩,
⟨some 113, .load none (.t 112), none⟩,
⟨some 114, .mov (.t 16), none⟩,
⟨some 115, .iadr 3 (.t 113) (.t 114), none⟩,
⟨some 116, .load (some 3) (.t 115), none⟩,
⟨some 117, .mkrow 3 1 [.int .i64 0, .int .i64 0, .int .i64 0] [(0, (.t 116))], none⟩,
⟨some 118, .append 3 (.t 111) (.t 117), none⟩,
⟨some 119, .fadr 10 (.t 10), none⟩,
⟨none, .store 1 (.t 119) (.t 118), none⟩] [2, 3, 4, 10, 15, 67, 68, 69]))
(.seq
(.region none [
⟨some 121, .mov (.t 14), none⟩,
⟨some 120, .mov (.t 121), none⟩] [2, 3, 4, 10, 12, 13, 15, 16, 17, 67, 68, 69, 120])
(.cond (.t 120)
(.seq
(.region none [
⟨some 18, .alloc [.int .i64 0, .int .i64 0, .int .i64 0], none⟩] [2, 3, 4, 10, 12, 13, 18, 67, 68, 69])
(.seq
(.region none [
⟨some 122, .fadr 0 (.t 12), none⟩,
⟨some 123, .load none (.t 122), none⟩,
⟨some 124, .fadr 0 (.t 18), none⟩,
⟨none, .store 1 (.t 124) (.t 123), none⟩] [2, 3, 4, 10, 12, 13, 18, 67, 68, 69])
(.seq
(.region none [
⟨some 126, .fadr 5 (.t 10), none⟩,
⟨some 127, .load (some 5) (.t 126), none⟩,
⟨some 128, .load (some 2) (.t 13), none⟩,
⟨some 129, .fadr 0 (.t 12), none⟩,
⟨some 130, .load none (.t 129), none⟩,
⟨some 131, .call .pur 170 [(.t 127), (.t 128), (.t 130)], none⟩,
⟨some 125, .mov (.t 131), none⟩,
⟨some 132, .ext 0 (.t 125), none⟩,
⟨some 133, .ext 1 (.t 125), none⟩,
⟨some 134, .ext 2 (.t 125), none⟩,
⟨some 135, .fadr 5 (.t 10), none⟩,
⟨none, .store 5 (.t 135) (.t 132), none⟩,
⟨some 136, .fadr 1 (.t 18), none⟩,
⟨none, .store 2 (.t 136) (.t 133), none⟩,
⟨some 15, .mov (.t 134), none⟩] [2, 3, 4, 10, 15, 18, 67, 68, 69])
(.region none [
⟨some 137, .fadr 10 (.t 10), none⟩,
⟨some 138, .load none (.t 137), none⟩,
⟨some 139, .load (some 3) (.t 18), none⟩,
⟨some 140, .mkrow 3 1 [.int .i64 0, .int .i64 0, .int .i64 0] [(0, (.t 139))], none⟩,
⟨some 141, .append 3 (.t 138) (.t 140), none⟩,
⟨some 142, .fadr 10 (.t 10), none⟩,
⟨none, .store 1 (.t 142) (.t 141), none⟩] [2, 3, 4, 10, 15, 67, 68, 69]))))
(.seq
(.region none [
⟨some 144, .mov (.t 17), none⟩,
⟨some 143, .mov (.t 144), none⟩] [2, 3, 4, 10, 15, 16, 67, 68, 69, 143])
(.cond (.t 143)
(.region (some [0, 1, 0, 4, 0, 28, 60, 124, 255, 511, 1023, 1023, 1023, 2047, 10239, 32767]) [
⟨some 146, .fadr 5 (.t 10), none⟩,
⟨some 147, .load (some 5) (.t 146), none⟩,
⟨some 148, .fadr 10 (.t 2), none⟩,
⟨some 149, .load none (.t 148), none⟩,
⟨some 150, .mov (.t 16), none⟩,
⟨some 151, .iadr 3 (.t 149) (.t 150), none⟩,
⟨some 152, .fadr 1 (.t 151), none⟩,
⟨some 153, .load (some 2) (.t 152), none⟩,
⟨some 154, .call .pur 171 [(.t 147), (.t 153)], none⟩,
⟨some 145, .mov (.t 154), none⟩,
⟨some 155, .ext 0 (.t 145), none⟩,
⟨some 156, .ext 1 (.t 145), none⟩,
⟨some 157, .ext 2 (.t 145), none⟩,
⟨some 158, .fadr 5 (.t 10), none⟩,
⟨none, .store 5 (.t 158) (.t 155), none⟩,
⟨some 15, .mov (.t 157), none⟩] [2, 3, 4, 10, 15, 67, 68, 69])
.skip)))))))
(.seq
(.region none [
⟨some 159, .mov (.t 15), none⟩,
⟨some 160, .bin .neq (.t 159) (.c (.int .i64 0)), none⟩] [2, 3, 4, 10, 15, 67, 68, 69, 160])
(.cond (.t 160)
(.seq
(.region none [
⟨some 161, .build [.int .i64 0, .int .i64 0, .sl 3 true [], .int .i64 0, .sl 3 true [], .sl 1 true [], .sl 1 true [], .sl 1 true [], .sl 5 true [], .sl 1 true [], .sl 3 true []] [], none⟩,
⟨some 162, .mov (.t 15), none⟩,
⟨none, .store 11 (.t 4) (.t 161), none⟩,
⟨some 5, .mov (.t 162), none⟩] [4, 5])
.ret)
.skip)))))))
(.region none [
⟨some 163, .bin .add (.t 69) (.c (.int .i64 1)), none⟩,
⟨some 69, .mov (.t 163), none⟩] [2, 3, 4, 10, 67, 68, 69])))))))
(.seq
(.region none [
⟨some 164, .load (some 11) (.t 10), none⟩,
⟨none, .store 11 (.t 4) (.t 164), none⟩,
⟨some 5, .mov (.c (.int .i64 0)), none⟩] [4, 5])
.ret)))))))),
[.cell 4 (some 11), .tmp 5]⟩

theorem x108_ok : chkFunc Go.Proofs.Tryz.prog (fun _ => true) x108 108 = true := by decide +kernel

/-- slices.ContainsFunc[[]peloton/api.Held,peloton/api.Held] -/
def x109 : XFunc := ⟨2,
(.seq
(.region none [
⟨some 4, .mov (.c (.bool false)), none⟩] [0, 1])
(.seq
(.region none [
⟨some 5, .mov (.t 0), none⟩,
⟨some 6, .mov (.t 1), none⟩,
⟨some 7, .call .pur 172 [(.t 5), (.t 6)], none⟩,
⟨some 8, .bin .geq (.t 7) (.c (.int .i64 0)), none⟩,
⟨some 4, .mov (.t 8), none⟩] [4])
.ret)),
[.tmp 4]⟩

theorem x109_ok : chkFunc Go.Proofs.Tryz.prog (fun _ => true) x109 109 = true := by decide +kernel

/-- peloton/kheap.renew$1 -/
def x110 : XFunc := ⟨2,
(.seq
(.region none [
⟨some 2, .box (.t 0), none⟩,
⟨some 3, .mov (.c (.bool false)), none⟩] [1, 2])
(.seq
(.region none [
⟨some 4, .fadr 1 (.t 2), none⟩,
⟨some 5, .load (some 2) (.t 4), none⟩,
⟨some 6, .load (some 2) (.t 1), none⟩,
⟨some 7, .eqc 2 false (.t 5) (.t 6), none⟩,
⟨some 3, .mov (.t 7), none⟩] [3])
.ret)),
[.tmp 3]⟩

theorem x110_ok : chkFunc Go.Proofs.Tryz.prog (fun _ => true) x110 110 = true := by decide +kernel

/-- peloton/clock.Certify -/
def x111 : XFunc := ⟨2,
(.seq
(.region none [
⟨some 2, .box (.t 0), none⟩,
⟨some 3, .box (.t 1), none⟩,
⟨some 4, .alloc [.int .i64 0, .int .i64 0, .sl 3 true [], .int .i64 0, .sl 3 true [], .sl 1 true [], .sl 1 true [], .sl 1 true [], .sl 5 true [], .sl 1 true [], .sl 3 true []], none⟩,
⟨some 5, .mov (.c (.int .i64 0)), none⟩,
⟨some 6, .mov (.c (.int .i64 0)), none⟩] [2, 3, 4])
(.seq
(.region none [
⟨some 7, .mov (.c (.clo 173 [] [])), none⟩] [2, 3, 4, 7])
(.seq
(.seq
(.region none [
⟨some 18, .load (some 11) (.t 2), none⟩,
⟨some 19, .call .pur 54 [(.t 18)], none⟩,
⟨some 8, .mov (.t 19), none⟩] [2, 3, 4, 7, 8])
(.seq
(.region none [
⟨some 20, .mov (.t 8), none⟩,
⟨some 21, .bin .neq (.t 20) (.c (.int .i64 0)), none⟩] [2, 3, 4, 7, 8, 21])
(.cond (.t 21)
(.seq
(.region none [
⟨some 22, .mov (.t 7), none⟩,
⟨some 23, .mov (.t 8), none⟩,
⟨some 24, .callv (.t 22) [(.t 23)], none⟩,
⟨some 25, .ext 0 (.t 24), none⟩,
⟨some 26, .ext 1 (.t 24), none⟩,
⟨some 27, .ext 2 (.t 24), none⟩,
⟨none, .store 11 (.t 4) (.t 25), none⟩,
⟨some 5, .mov (.t 26), none⟩,
⟨some 6, .mov (.t 27), none⟩] [4, 5, 6])
.ret)
.skip)))
(.seq
(.region none [
⟨some 29, .fadr 3 (.t 2), none⟩,
⟨some 30, .load (some 2) (.t 29), none⟩,
⟨some 31, .load (some 2) (.t 3), none⟩,
⟨some 32, .call .pur 174 [(.t 30), (.t 31)], none⟩,
⟨some 28, .mov (.t 32), none⟩,
⟨some 33, .ext 0 (.t 28), none⟩,
⟨some 34, .ext 1 (.t 28), none⟩,
⟨some 35, .ext 2 (.t 28), none⟩,
⟨some 9, .alloc [.int .i64 0, .sl 3 true []], none⟩,
⟨none, .store 2 (.t 9) (.t 33), none⟩,
⟨some 10, .mov (.t 34), none⟩,
⟨some 11, .mov (.t 35), none⟩] [2, 3, 4, 7, 9, 10, 11])
(.seq
(.seq
(.region none [
⟨some 36, .mov (.t 11), none⟩,
⟨some 37, .bin .eql (.t 36) (.c (.int .i64 8)), none⟩] [2, 3, 4, 7, 9, 10, 11, 37])
(.cond (.t 37)
(.seq
(.region none [
⟨some 38, .mov (.t 7), none⟩,
⟨some 39, .mov (.t 11), none⟩,
⟨some 40, .callv (.t 38) [(.t 39)], none⟩,
⟨some 41, .ext 0 (.t 40), none⟩,
⟨some 42, .ext 1 (.t 40), none⟩,
⟨some 43, .ext 2 (.t 40), none⟩,
⟨none, .store 11 (.t 4) (.t 41), none⟩,
⟨some 5, .mov (.t 42), none⟩,
⟨some 6, .mov (.t 43), none⟩] [4, 5, 6])
.ret)
.skip))
(.seq
(.seq
(.region none [
⟨some 44, .fadr 2 (.t 2), none⟩,
⟨some 45, .load (some 1) (.t 44), none⟩,
⟨some 46, .fadr 0 (.t 3), none⟩,
⟨some 47, .load none (.t 46), none⟩,
⟨some 48, .call .pur 164 [(.t 45), (.t 47)], none⟩,
⟨some 49, .fld none 0 (.t 48), none⟩,
⟨some 50, .bin .lss (.t 49) (.c (.int .i64 0)), none⟩,
⟨some 51, .mov (.t 50), none⟩,
⟨some 52, .fadr 2 (.t 2), (some (51, false))⟩,
⟨some 53, .load (some 1) (.t 52), (some (51, false))⟩,
⟨some 54, .fadr 1 (.t 3), (some (51, false))⟩,
⟨some 55, .load none (.t 54), (some (51, false))⟩,
⟨some 56, .call .pur 164 [(.t 53), (.t 55)], (some (51, false))⟩,
⟨some 57, .fld none 0 (.t 56), (some (51, false))⟩,
⟨some 58, .bin .lss (.t 57) (.c (.int .i64 0)), (some (51, false))⟩,
⟨some 59, .pick (.t 51) (.c (.bool true)) (.t 58), none⟩] [2, 3, 4, 7, 9, 10, 11, 59])
(.cond (.t 59)
(.seq
(.region none [
⟨some 60, .mov (.t 7), none⟩,
⟨some 61, .callv (.t 60) [(.c (.int .i64 6))], none⟩,
⟨some 62, .ext 0 (.t 61), none⟩,
⟨some 63, .ext 1 (.t 61), none⟩,
⟨some 64, .ext 2 (.t 61), none⟩,
⟨none, .store 11 (.t 4) (.t 62), none⟩,
⟨some 5, .mov (.t 63), none⟩,
⟨some 6, .mov (.t 64), none⟩] [4, 5, 6])
.ret)
.skip))
(.seq
(.seq
(.region none [
⟨some 65, .mov (.t 11), none⟩,
⟨some 66, .bin .neq (.t 65) (.c (.int .i64 0)), none⟩] [2, 3, 4, 7, 9, 10, 11, 66])
(.cond (.t 66)
(.seq
(.region none [
⟨some 67, .mov (.t 7), none⟩,
⟨some 68, .mov (.t 11), none⟩,
⟨some 69, .callv (.t 67) [(.t 68)], none⟩,
⟨some 70, .ext 0 (.t 69), none⟩,
⟨some 71, .ext 1 (.t 69), none⟩,
⟨some 72, .ext 2 (.t 69), none⟩,
⟨none, .store 11 (.t 4) (.t 70), none⟩,
⟨some 5, .mov (.t 71), none⟩,
⟨some 6, .mov (.t 72), none⟩] [4, 5, 6])
.ret)
.skip))
(.seq
(.region none [
⟨some 73, .load (some 11) (.t 2), none⟩,
⟨some 74, .call .own 137 [(.t 73)], none⟩,
⟨some 12, .alloc [.int .i64 0, .int .i64 0, .sl 3 true [], .int .i64 0, .sl 3 true [], .sl 1 true [], .sl 1 true [], .sl 1 true [], .sl 5 true [], .sl 1 true [], .sl 3 true []], none⟩,
⟨none, .store 11 (.t 12) (.t 74), none⟩] [2, 3, 4, 7, 9, 10, 12])
(.seq
(.region none [
⟨some 75, .load (some 2) (.t 9), none⟩,
⟨some 76, .fadr 3 (.t 12), none⟩,
⟨none, .store 2 (.t 76) (.t 75), none⟩] [2, 3, 4, 7, 10, 12])
(.seq
(.region none [
⟨some 78, .fadr 2 (.t 2), none⟩,
⟨some 79, .load (some 1) (.t 78), none⟩,
⟨some 80, .load (some 2) (.t 3), none⟩,
⟨some 81, .fadr 0 (.t 2), none⟩,
⟨some 82, .load (some 2) (.t 81), none⟩,
⟨some 83, .call .pur 102 [(.t 79), (.t 80), (.t 82)], none⟩,
⟨some 77, .mov (.t 83), none⟩,
⟨some 84, .ext 0 (.t 77), none⟩,
⟨some 85, .ext 1 (.t 77), none⟩,
⟨some 86, .ext 2 (.t 77), none⟩,
⟨some 13, .alloc [.int .i64 0, .int .i64 0], none⟩,
⟨none, .store 2 (.t 13) (.t 84), none⟩,
⟨some 14, .mov (.t 85), none⟩,
⟨some 11, .mov (.t 86), none⟩] [2, 4, 7, 10, 11, 12, 13, 14])
(.seq
(.seq
(.region none [
⟨some 87, .mov (.t 11), none⟩,
⟨some 88, .bin .neq (.t 87) (.c (.int .i64 0)), none⟩] [2, 4, 7, 10, 11, 12, 13, 14, 88])
(.cond (.t 88)
(.seq
(.region none [
⟨some 89, .mov (.t 7), none⟩,
⟨some 90, .mov (.t 11), none⟩,
⟨some 91, .callv (.t 89) [(.t 90)], none⟩,
⟨some 92, .ext 0 (.t 91), none⟩,
⟨some 93, .ext 1 (.t 91), none⟩,
⟨some 94, .ext 2 (.t 91), none⟩,
⟨none, .store 11 (.t 4) (.t 92), none⟩,
⟨some 5, .mov (.t 93), none⟩,
⟨some 6, .mov (.t 94), none⟩] [4, 5, 6])
.ret)
.skip))
(.seq
(.seq
(.region none [
⟨some 95, .mov (.t 14), none⟩] [2, 4, 7, 10, 12, 13, 95])
(.cond (.t 95)
(.seq
(.region none [
⟨some 97, .fadr 5 (.t 2), none⟩,
⟨some 98, .load (some 5) (.t 97), none⟩,
⟨some 99, .load (some 2) (.t 13), none⟩,
⟨some 100, .mov (.t 10), none⟩,
⟨some 101, .call .pur 170 [(.t 98), (.t 99), (.t 100)], none⟩,
⟨some 96, .mov (.t 101), none⟩,
⟨some 102, .ext 0 (.t 96), none⟩,
⟨some 103, .ext 1 (.t 96), none⟩,
⟨some 104, .ext 2 (.t 96), none⟩,
⟨some 15, .alloc [.sl 1 true [], .sl 1 true [], .sl 1 true [], .sl 5 true [], .sl 1 true []], none⟩,
⟨some 16, .alloc [.int .i64 0, .int .i64 0], none⟩,
⟨none, .store 5 (.t 15) (.t 102), none⟩,
⟨none, .store 2 (.t 16) (.t 103), none⟩,
⟨some 17, .mov (.t 104), none⟩] [4, 7, 10, 12, 15, 16, 17])
(.seq
(.seq
(.region none [
⟨some 105, .mov (.t 17), none⟩,
⟨some 106, .bin .neq (.t 105) (.c (.int .i64 0)), none⟩] [4, 7, 10, 12, 15, 16, 17, 106])
(.cond (.t 106)
(.seq
(.region none [
⟨some 107, .mov (.t 7), none⟩,
⟨some 108, .mov (.t 17), none⟩,
⟨some 109, .callv (.t 107) [(.t 108)], none⟩,
⟨some 110, .ext 0 (.t 109), none⟩,
⟨some 111, .ext 1 (.t 109), none⟩,
⟨some 112, .ext 2 (.t 109), none⟩,
⟨none, .store 11 (.t 4) (.t 110), none⟩,
⟨some 5, .mov (.t 111), none⟩,
⟨some 6, .mov (.t 112), none⟩] [4, 5, 6])
.ret)
.skip))
(.region (some [0, 0, 2, 0, 0, 24, 56, 126, 7, 511, 1023, 2047]) [
⟨some 113, .load (some 5) (.t 15), none⟩,
⟨some 114, .fadr 10 (.t 12), none⟩,
⟨some 115, .load none (.t 114), none⟩,
⟨some 116, .mov (.t 10), none⟩,
⟨some 117, .load (some 2) (.t 16), none⟩,
⟨some 118, .build [.int .i64 0, .int .i64 0, .int .i64 0] [(0, 1, (.t 116)), (1, 2, (.t 117))], none⟩,
⟨some 119, .mkrow 3 1 [.int .i64 0, .int .i64 0, .int .i64 0] [(0, (.t 118))], none⟩,
⟨some 120, .append 3 (.t 115) (.t 119), none⟩,
⟨some 121, .fadr 5 (.t 12), none⟩,
⟨none, .store 5 (.t 121) (.t 113), none⟩,
⟨some 122, .fadr 10 (.t 12), none⟩,
⟨none, .store 1 (.t 122) (.t 120), none⟩] [4, 10, 12])))
.skip))
(.seq
(.region none [
⟨some 123, .load (some 11) (.t 12), none⟩,
⟨some 124, .mov (.t 10), none⟩,
⟨none, .store 11 (.t 4) (.t 123), none⟩,
⟨some 5, .mov (.t 124), none⟩,
⟨some 6, .mov (.c (.int .i64 0)), none⟩] [4, 5, 6])
.ret))))))))))))),
[.cell 4 (some 11), .tmp 5, .tmp 6]⟩

theorem x111_ok : chkFunc Go.Proofs.Tryz.prog (fun _ => true) x111 111 = true := by decide +kernel

/-- peloton/pelotonref08.Check -/
def x117 : XFunc := ⟨1,
(.seq
(.region none [
⟨some 1, .box (.t 0), none⟩,
⟨some 2, .mov (.c (.int .i64 0)), none⟩] [1])
(.seq
(.seq
(.region none [
⟨some 6, .fadr 1 (.t 1), none⟩,
⟨some 7, .load none (.t 6), none⟩,
⟨some 8, .len (.t 7), none⟩,
⟨some 9, .bin .gtr (.t 8) (.c (.int .i64 200)), none⟩,
⟨some 10, .mov (.t 9), none⟩,
⟨some 11, .fadr 0 (.t 1), (some (10, false))⟩,
⟨some 12, .load none (.t 11), (some (10, false))⟩,
⟨some 13, .bin .lss (.t 12) (.c (.int .i64 0)), (some (10, false))⟩,
⟨some 14, .pick (.t 10) (.c (.bool true)) (.t 13), none⟩,
⟨some 15, .mov (.t 14), none⟩,
⟨some 16, .fadr 0 (.t 1), (some (15, false))⟩,
⟨some 17, .load none (.t 16), (some (15, false))⟩,
⟨some 18, .bin .gtr (.t 17) (.c (.int .i64 1000000)), (some (15, false))⟩,
⟨some 19, .pick (.t 15) (.c (.bool true)) (.t 18), none⟩] [1, 19])
(.cond (.t 19)
(.seq
(.region none [
⟨some 2, .mov (.c (.int .i64 8)), none⟩] [2])
.ret)
.skip))
(.seq
(.seq
(.region none [
⟨some 3, .mov (.c (.int .i64 0)), none⟩] [1, 3])
(.block 0
(.loop [(1, none), (3, none)]
(.seq
(.seq
(.region none [
⟨some 20, .mov (.t 3), none⟩,
⟨some 21, .fadr 1 (.t 1), none⟩,
⟨some 22, .load none (.t 21), none⟩,
⟨some 23, .len (.t 22), none⟩,
⟨some 24, .bin .lss (.t 20) (.t 23), none⟩] [1, 3, 24])
(.cond (.t 24)
.skip
(.exit 0)))
(.seq
(.block 1
(.seq
(.region none [
⟨some 27, .fadr 1 (.t 1), none⟩,
⟨some 28, .load none (.t 27), none⟩,
⟨some 29, .mov (.t 3), none⟩,
⟨some 30, .iadr 3 (.t 28) (.t 29), none⟩,
⟨some 31, .load (some 3) (.t 30), none⟩,
⟨some 4, .alloc [.int .i64 0, .int .i64 0, .int .i64 0], none⟩,
⟨none, .store 3 (.t 4) (.t 31), none⟩] [1, 3, 4])
(.seq
(.seq
(.region (some [0, 1, 3, 7, 15, 31, 63, 127, 255, 511, 1023, 2047, 1023, 5119, 16383, 32767, 65535, 131071, 262143, 524287, 1048575, 2097151, 1048575, 5242879, 16777215, 33554431, 67108863, 1048575, 135266303, 536870911, 1073741823, 2147483647]) [
⟨some 32, .fadr 1 (.t 4), none⟩,
⟨some 33, .load (some 2) (.t 32), none⟩,
⟨some 34, .call .pur 122 [(.t 33)], none⟩,
⟨some 35, .un .not (.t 34), none⟩,
⟨some 36, .mov (.t 35), none⟩,
⟨some 37, .fadr 0 (.t 4), (some (36, false))⟩,
⟨some 38, .load none (.t 37), (some (36, false))⟩,
⟨some 39, .bin .lss (.t 38) (.c (.int .i64 0)), (some (36, false))⟩,
⟨some 40, .pick (.t 36) (.c (.bool true)) (.t 39), none⟩,
⟨some 41, .mov (.t 40), none⟩,
⟨some 42, .fadr 0 (.t 4), (some (41, false))⟩,
⟨some 43, .load none (.t 42), (some (41, false))⟩,
⟨some 44, .fadr 0 (.t 1), (some (41, false))⟩,
⟨some 45, .load none (.t 44), (some (41, false))⟩,
⟨some 46, .bin .geq (.t 43) (.t 45), (some (41, false))⟩,
⟨some 47, .pick (.t 41) (.c (.bool true)) (.t 46), none⟩,
⟨some 48, .mov (.t 47), none⟩,
⟨some 49, .mov (.t 3), (some (48, false))⟩,
⟨some 50, .bin .gtr (.t 49) (.c (.int .i64 0)), (some (48, false))⟩,
⟨some 51, .mov (.t 50), (some (48, false))⟩,
⟨some 52, .fadr 1 (.t 1), (some (51, true))⟩,
⟨some 53, .load none (.t 52), (some (51, true))⟩,
⟨some 54, .mov (.t 3), (some (51, true))⟩,
⟨some 55, .bin .sub (.t 54) (.c (.int .i64 1)), (some (51, true))⟩,
⟨some 56, .iadr 3 (.t 53) (.t 55), (some (51, true))⟩,
⟨some 57, .fadr 0 (.t 56), (some (51, true))⟩,
⟨some 58, .load none (.t 57), (some (51, true))⟩,
⟨some 59, .fadr 0 (.t 4), (some (51, true))⟩,
⟨some 60, .load none (.t 59), (some (51, true))⟩,
⟨some 61, .bin .geq (.t 58) (.t 60), (some (51, true))⟩,
⟨some 62, .pick (.t 51) (.t 61) (.c (.bool false)), (some (48, false))⟩,
⟨some 63, .pick (.t 48) (.c (.bool true)) (.t 62), none⟩] [1, 3, 4, 63])
(.cond (.t 63)
(.seq
(.region none [
⟨some 2, .mov (.c (.int .i64 8)), none⟩] [2])
.ret)
.skip))
(.seq
(.region none [
⟨some 5, .mov (.c (.int .i64 0)), none⟩] [1, 3, 4, 5])
(.block 2
(.loop [(1, none), (3, none), (4, none), (5, none)]
(.seq
(.seq
(.region none [
⟨some 64, .mov (.t 5), none⟩,
⟨some 65, .mov (.t 3), none⟩,
⟨some 66, .bin .lss (.t 64) (.t 65), none⟩] [1, 3, 4, 5, 66])
(.cond (.t 66)
.skip
(.exit 2)))
(.seq
(.block 3
(.seq
(.region (some [0, 1, 0, 7, 15, 31, 0, 64, 255]) [
⟨some 69, .fadr 1 (.t 1), none⟩,
⟨some 70, .load none (.t 69), none⟩,
⟨some 71, .mov (.t 5), none⟩,
⟨some 72, .iadr 3 (.t 70) (.t 71), none⟩,
⟨some 73, .fadr 1 (.t 72), none⟩,
⟨some 74, .load (some 2) (.t 73), none⟩,
⟨some 75, .fadr 1 (.t 4), none⟩,
⟨some 76, .load (some 2) (.t 75), none⟩,
⟨some 77, .eqc 2 false (.t 74) (.t 76), none⟩] [1, 3, 4, 5, 77])
(.cond (.t 77)
(.seq
(.region none [
⟨some 2, .mov (.c (.int .i64 8)), none⟩] [2])
.ret)
.skip)))
(.region none [
⟨some 67, .mov (.t 5), none⟩,
⟨some 68, .bin .add (.t 67) (.c (.int .i64 1)), none⟩,
⟨some 5, .mov (.t 68), none⟩] [1, 3, 4, 5])))))))))
(.region none [
⟨some 25, .mov (.t 3), none⟩,
⟨some 26, .bin .add (.t 25) (.c (.int .i64 1)), none⟩,
⟨some 3, .mov (.t 26), none⟩] [1, 3]))))))
(.seq
(.region none [
⟨some 2, .mov (.c (.int .i64 0)), none⟩] [2])
.ret)))),
[.tmp 2]⟩

theorem x117_ok : chkFunc Go.Proofs.Tryz.prog (fun _ => true) x117 117 = true := by decide +kernel

/-- peloton/pelotonref09.When -/
def x120 : XFunc := ⟨3,
(.seq
(.region none [
⟨some 3, .box (.t 0), none⟩,
⟨some 4, .box (.t 1), none⟩,
⟨some 5, .box (.t 2), none⟩,
⟨some 6, .alloc [.int .i64 0, .int .i64 0], none⟩,
⟨some 7, .mov (.c (.bool false)), none⟩] [3, 4, 5, 6])
(.seq
(.region (some [0, 1, 0, 0, 8, 28, 63, 127, 0, 256, 0, 0, 2048, 7228, 16188, 32572, 0, 131071, 262143, 262143, 1048575, 2097151]) [
⟨some 8, .fadr 0 (.t 3), none⟩,
⟨some 9, .load none (.t 8), none⟩,
⟨some 10, .load (some 1) (.t 3), none⟩,
⟨some 11, .fadr 1 (.t 4), none⟩,
⟨some 12, .load none (.t 11), none⟩,
⟨some 13, .call .pur 80 [(.t 10), (.t 12)], none⟩,
⟨some 14, .iadr 3 (.t 9) (.t 13), none⟩,
⟨some 15, .load (some 3) (.t 14), none⟩,
⟨some 16, .fadr 0 (.t 3), none⟩,
⟨some 17, .load none (.t 16), none⟩,
⟨some 18, .load (some 1) (.t 3), none⟩,
⟨some 19, .fadr 0 (.t 4), none⟩,
⟨some 20, .load none (.t 19), none⟩,
⟨some 21, .call .pur 80 [(.t 18), (.t 20)], none⟩,
⟨some 22, .iadr 3 (.t 17) (.t 21), none⟩,
⟨some 23, .load (some 3) (.t 22), none⟩,
⟨some 24, .load (some 2) (.t 5), none⟩,
⟨some 25, .call .pur 178 [(.t 15), (.t 23), (.t 24)], none⟩,
⟨some 26, .ext 0 (.t 25), none⟩,
⟨some 27, .ext 1 (.t 25), none⟩,
⟨none, .store 2 (.t 6) (.t 26), none⟩,
⟨some 7, .mov (.t 27), none⟩] [6, 7])
.ret)),
[.cell 6 (some 2), .tmp 7]⟩

theorem x120_ok : chkFunc Go.Proofs.Tryz.prog (fun _ => true) x120 120 = true := by decide +kernel

/-- peloton/pelotonref08.Cert -/
def x122 : XFunc := ⟨1,
(.seq
(.region none [
⟨some 1, .box (.t 0), none⟩,
⟨some 2, .mov (.c (.bool false)), none⟩] [1])
(.seq
(.region none [
⟨some 3, .fadr 0 (.t 1), none⟩,
⟨some 4, .load none (.t 3), none⟩,
⟨some 5, .bin .geq (.t 4) (.c (.int .i64 0)), none⟩,
⟨some 6, .mov (.t 5), none⟩,
⟨some 7, .fadr 0 (.t 1), (some (6, true))⟩,
⟨some 8, .load none (.t 7), (some (6, true))⟩,
⟨some 9, .bin .leq (.t 8) (.c (.int .i64 65535)), (some (6, true))⟩,
⟨some 10, .pick (.t 6) (.t 9) (.c (.bool false)), none⟩,
⟨some 11, .mov (.t 10), none⟩,
⟨some 12, .fadr 1 (.t 1), (some (11, true))⟩,
⟨some 13, .load none (.t 12), (some (11, true))⟩,
⟨some 14, .bin .geq (.t 13) (.c (.int .i64 0)), (some (11, true))⟩,
⟨some 15, .pick (.t 11) (.t 14) (.c (.bool false)), none⟩,
⟨some 16, .mov (.t 15), none⟩,
⟨some 17, .fadr 1 (.t 1), (some (16, true))⟩,
⟨some 18, .load none (.t 17), (some (16, true))⟩,
⟨some 19, .bin .leq (.t 18) (.c (.int .i64 65535)), (some (16, true))⟩,
⟨some 20, .pick (.t 16) (.t 19) (.c (.bool false)), none⟩,
⟨some 21, .mov (.t 20), none⟩,
⟨some 22, .fadr 0 (.t 1), (some (21, true))⟩,
⟨some 23, .load none (.t 22), (some (21, true))⟩,
⟨some 24, .fadr 1 (.t 1), (some (21, true))⟩,
⟨some 25, .load none (.t 24), (some (21, true))⟩,
⟨some 26, .bin .neq (.t 23) (.t 25), (some (21, true))⟩,
⟨some 27, .pick (.t 21) (.t 26) (.c (.bool false)), none⟩,
⟨some 2, .mov (.t 27), none⟩] [2])
.ret)),
[.tmp 2]⟩

theorem x122_ok : chkFunc Go.Proofs.Tryz.prog (fun _ => true) x122 122 = true := by decide +kernel

/-- peloton/pelotonref09.Altered -/
def x123 : XFunc := ⟨2,
(.seq
(.region none [
⟨some 2, .box (.t 0), none⟩,
⟨some 3, .box (.t 1), none⟩,
⟨some 4, .alloc [.int .i64 0, .int .i64 0, .sl 3 true [], .int .i64 0, .sl 3 true [], .sl 1 true [], .sl 1 true [], .sl 1 true [], .sl 5 true [], .sl 1 true [], .sl 3 true []], none⟩,
⟨some 5, .mov (.c (.int .i64 0)), none⟩] [2, 3, 4])
(.seq
(.region none [
⟨some 14, .load (some 11) (.t 2), none⟩,
⟨some 15, .call .own 12 [(.t 14)], none⟩,
⟨some 6, .alloc [.int .i64 0, .int .i64 0, .sl 3 true [], .int .i64 0, .sl 3 true [], .sl 1 true [], .sl 1 true [], .sl 1 true [], .sl 5 true [], .sl 1 true [], .sl 3 true []], none⟩,
⟨none, .store 11 (.t 6) (.t 15), none⟩] [2, 3, 4, 6])
(.seq
(.region none [
⟨some 16, .load (some 1) (.t 3), none⟩,
⟨some 17, .call .own 51 [(.t 16)], none⟩,
⟨some 18, .fadr 2 (.t 6), none⟩,
⟨none, .store 1 (.t 18) (.t 17), none⟩] [2, 3, 4, 6])
(.seq
(.region none [
⟨some 19, .fadr 10 (.t 6), none⟩,
⟨none, .store 1 (.t 19) (.c (.sl 3 true [])), none⟩] [2, 3, 4, 6])
(.seq
(.seq
(.region none [
⟨some 7, .mov (.c (.int .i64 0)), none⟩] [2, 3, 4, 6, 7])
(.block 0
(.loop [(2, none), (3, none), (4, none), (6, none), (7, none)]
(.seq
(.seq
(.region none [
⟨some 20, .mov (.t 7), none⟩,
⟨some 21, .fadr 3 (.t 2), none⟩,
⟨some 22, .fadr 1 (.t 21), none⟩,
⟨some 23, .load none (.t 22), none⟩,
⟨some 24, .len (.t 23), none⟩,
⟨some 25, .bin .lss (.t 20) (.t 24), none⟩] [2, 3, 4, 6, 7, 25])
(.cond (.t 25)
.skip
(.exit 0)))
(.seq
(.block 1
(.seq
(.region none [
⟨some 28, .fadr 3 (.t 2), none⟩,
⟨some 29, .fadr 1 (.t 28), none⟩,
⟨some 30, .load none (.t 29), none⟩,
⟨some 31, .mov (.t 7), none⟩,
⟨some 32, .iadr 3 (.t 30) (.t 31), none⟩,
⟨some 33, .load (some 3) (.t 32), none⟩,
⟨some 8, .alloc [.int .i64 0, .int .i64 0, .int .i64 0], none⟩,
⟨none, .store 3 (.t 8) (.t 33), none⟩] [2, 3, 4, 6, 7, 8])
(.seq
(.region none [
⟨some 34, .load (some 11) (.t 2), none⟩,
⟨some 35, .fadr 0 (.t 8), none⟩,
⟨some 36, .load none (.t 35), none⟩,
⟨some 37, .call .pur 88 [(.t 34), (.t 36)], none⟩,
⟨some 9, .mov (.t 37), none⟩] [2, 3, 4, 6, 7, 8, 9])
(.seq
(.region none [
⟨some 39, .load (some 1) (.t 3), none⟩,
⟨some 40, .fadr 1 (.t 8), none⟩,
⟨some 41, .load (some 2) (.t 40), none⟩,
⟨some 42, .fadr 0 (.t 2), none⟩,
⟨some 43, .load (some 2) (.t 42), none⟩,
⟨some 44, .call .pur 120 [(.t 39), (.t 41), (.t 43)], none⟩,
⟨some 38, .mov (.t 44), none⟩,
⟨some 45, .ext 0 (.t 38), none⟩,
⟨some 46, .ext 1 (.t 38), none⟩,
⟨some 10, .alloc [.int .i64 0, .int .i64 0], none⟩,
⟨none, .store 2 (.t 10) (.t 45), none⟩,
⟨some 11, .mov (.t 46), none⟩] [2, 3, 4, 6, 7, 8, 9, 10, 11])
(.seq
(.seq
(.region none [
⟨some 47, .mov (.t 11), none⟩,
⟨some 48, .mov (.t 47), none⟩,
⟨some 49, .mov (.t 9), (some (48, true))⟩,
⟨some 50, .bin .geq (.t 49) (.c (.int .i64 0)), (some (48, true))⟩,
⟨some 51, .pick (.t 48) (.t 50) (.c (.bool false)), none⟩] [2, 3, 4, 6, 7, 8, 9, 10, 11, 51])
(.cond (.t 51)
(.seq
(.region (some [0, 1, 0, 4, 0, 28, 60, 124, 0, 511, 1023, 2047]) [
⟨some 52, .fadr 5 (.t 6), none⟩,
⟨some 53, .load (some 5) (.t 52), none⟩,
⟨some 54, .fadr 10 (.t 2), none⟩,
⟨some 55, .load none (.t 54), none⟩,
⟨some 56, .mov (.t 9), none⟩,
⟨some 57, .iadr 3 (.t 55) (.t 56), none⟩,
⟨some 58, .fadr 1 (.t 57), none⟩,
⟨some 59, .load (some 2) (.t 58), none⟩,
⟨some 60, .load (some 2) (.t 10), none⟩,
⟨some 61, .call .pur 180 [(.t 53), (.t 59), (.t 60)], none⟩,
⟨some 62, .fadr 5 (.t 6), none⟩,
⟨none, .store 5 (.t 62) (.t 61), none⟩] [2, 3, 4, 6, 7, 8, 9, 10, 11])
(.region (some [0, 1, 0, 4, 0, 28, 60, 124, 255, 511, 1023]) [
⟨some 63, .fadr 10 (.t 6), none⟩,
⟨some 64, .load none (.t 63), none⟩,
⟨some 65, .fadr 10 (.t 2), none⟩,
⟨some 66, .load none (.t 65), none⟩,
⟨some 67, .mov (.t 9), none⟩,
⟨some 68, .iadr 3 (.t 66) (.t 67), none⟩,
⟨some 69, .load (some 3) (.t 68), none⟩,
⟨some 70, .mkrow 3 1 [.int .i64 0, .int .i64 0, .int .i64 0] [(0, (.t 69))], none⟩,
⟨some 71, .append 3 (.t 64) (.t 70), none⟩,
⟨some 72, .fadr 10 (.t 6), none⟩,
⟨none, .store 1 (.t 72) (.t 71), none⟩] [2, 3, 4, 6, 7, 8, 9, 10, 11]))
.skip))
(.seq
(.seq
(.region none [
⟨some 73, .mov (.t 11), none⟩,
⟨some 74, .un .not (.t 73), none⟩,
⟨some 75, .mov (.t 74), none⟩,
⟨some 76, .mov (.t 9), (some (75, true))⟩,
⟨some 77, .bin .geq (.t 76) (.c (.int .i64 0)), (some (75, true))⟩,
⟨some 78, .pick (.t 75) (.t 77) (.c (.bool false)), none⟩] [2, 3, 4, 6, 7, 8, 9, 10, 11, 78])
(.cond (.t 78)
(.region (some [0, 1, 0, 4, 0, 28, 60, 124, 255, 511, 1023]) [
⟨some 79, .fadr 5 (.t 6), none⟩,
⟨some 80, .load (some 5) (.t 79), none⟩,
⟨some 81, .fadr 10 (.t 2), none⟩,
⟨some 82, .load none (.t 81), none⟩,
⟨some 83, .mov (.t 9), none⟩,
⟨some 84, .iadr 3 (.t 82) (.t 83), none⟩,
⟨some 85, .fadr 1 (.t 84), none⟩,
⟨some 86, .load (some 2) (.t 85), none⟩,
⟨some 87, .call .pur 89 [(.t 80), (.t 86)], none⟩,
⟨some 88, .fadr 5 (.t 6), none⟩,
⟨none, .store 5 (.t 88) (.t 87), none⟩] [2, 3, 4, 6, 7, 8, 9, 10, 11])
.skip))
(.seq
(.seq
(.region none [
⟨some 89, .mov (.t 11), none⟩,
⟨some 90, .un .not (.t 89), none⟩,
⟨some 91, .mov (.t 90), none⟩,
⟨some 92, .mov (.t 9), (some (91, false))⟩,
⟨some 93, .bin .geq (.t 92) (.c (.int .i64 0)), (some (91, false))⟩,
⟨some 94, .pick (.t 91) (.c (.bool true)) (.t 93), none⟩] [2, 3, 4, 6, 7, 8, 10, 94])
(.cond (.t 94)
(.exit 1)
.skip))
(.seq
(.seq
(.region none [
⟨some 95, .fadr 5 (.t 6), none⟩,
⟨some 96, .fadr 0 (.t 95), none⟩,
⟨some 97, .load (some 3) (.t 96), none⟩,
⟨some 98, .call .pur 181 [(.t 97)], none⟩,
⟨some 99, .un .not (.t 98), none⟩] [2, 3, 4, 6, 7, 8, 10, 99])
(.cond (.t 99)
(.seq
(.region none [
⟨some 100, .build [.int .i64 0, .int .i64 0, .sl 3 true [], .int .i64 0, .sl 3 true [], .sl 1 true [], .sl 1 true [], .sl 1 true [], .sl 5 true [], .sl 1 true [], .sl 3 true []] [], none⟩,
⟨none, .store 11 (.t 4) (.t 100), none⟩,
⟨some 5, .mov (.c (.int .i64 18)), none⟩] [4, 5])
.ret)
.skip))
(.seq
(.region none [
⟨some 102, .fadr 5 (.t 6), none⟩,
⟨some 103, .load (some 5) (.t 102), none⟩,
⟨some 104, .load (some 2) (.t 10), none⟩,
⟨some 105, .fadr 0 (.t 8), none⟩,
⟨some 106, .load none (.t 105), none⟩,
⟨some 107, .call .pur 182 [(.t 103), (.t 104), (.t 106)], none⟩,
⟨some 101, .mov (.t 107), none⟩,
⟨some 108, .ext 0 (.t 101), none⟩,
⟨some 109, .ext 1 (.t 101), none⟩,
⟨some 12, .alloc [.sl 1 true [], .sl 1 true [], .sl 1 true [], .sl 5 true [], .sl 1 true []], none⟩,
⟨some 13, .alloc [.int .i64 0, .int .i64 0], none⟩,
⟨none, .store 5 (.t 12) (.t 108), none⟩,
⟨none, .store 2 (.t 13) (.t 109), none⟩] [2, 3, 4, 6, 7, 8, 12, 13])
(.seq
(.region none [
⟨some 110, .load (some 5) (.t 12), none⟩,
⟨some 111, .fadr 5 (.t 6), none⟩,
⟨none, .store 5 (.t 111) (.t 110), none⟩] [2, 3, 4, 6, 7, 8, 13])
(.region none [
⟨some 112, .fadr 10 (.t 6), none⟩,
⟨some 113, .load none (.t 112), none⟩,
⟨some 114, .fadr 0 (.t 8), none⟩,
⟨some 115, .load none (.t 114), none⟩,
⟨some 116, .load (some 2) (.t 13), none⟩,
⟨some 117, .build [.int .i64 0, .int .i64 0, .int .i64 0] [(0, 1, (.t 115)), (1, 2, (.t 116))], none⟩,
⟨some 118, .mkrow 3 1 [.int .i64 0, .int .i64 0, .int .i64 0] [(0, (.t 117))], none⟩,
⟨some 119, .append 3 (.t 113) (.t 118), none⟩,
⟨some 120, .fadr 10 (.t 6), none⟩,
⟨none, .store 1 (.t 120) (.t 119), none⟩] [2, 3, 4, 6, 7])))))))))))
(.region none [
⟨some 26, .mov (.t 7), none⟩,
⟨some 27, .bin .add (.t 26) (.c (.int .i64 1)), none⟩,
⟨some 7, .mov (.t 27), none⟩] [2, 3, 4, 6, 7]))))))
(.seq
(.region none [
⟨some 121, .load (some 11) (.t 6), none⟩,
⟨none, .store 11 (.t 4) (.t 121), none⟩,
⟨some 5, .mov (.c (.int .i64 0)), none⟩] [4, 5])
.ret)))))),
[.cell 4 (some 11), .tmp 5]⟩

theorem x123_ok : chkFunc Go.Proofs.Tryz.prog (fun _ => true) x123 123 = true := by decide +kernel

/-- peloton/pelotonref08.Has -/
def x124 : XFunc := ⟨2,
(.seq
(.region none [
⟨some 2, .box (.t 0), none⟩,
⟨some 3, .box (.t 1), none⟩,
⟨some 4, .mov (.c (.bool false)), none⟩] [2, 3])
(.seq
(.seq
(.region none [
⟨some 5, .mov (.c (.int .i64 0)), none⟩] [2, 3, 5])
(.block 0
(.loop [(2, none), (3, none), (5, none)]
(.seq
(.seq
(.region none [
⟨some 6, .mov (.t 5), none⟩,
⟨some 7, .fadr 1 (.t 2), none⟩,
⟨some 8, .load none (.t 7), none⟩,
⟨some 9, .len (.t 8), none⟩,
⟨some 10, .bin .lss (.t 6) (.t 9), none⟩] [2, 3, 5, 10])
(.cond (.t 10)
.skip
(.exit 0)))
(.seq
(.block 1
(.seq
(.region (some [0, 1, 0, 7, 15, 31, 0, 127]) [
⟨some 13, .fadr 1 (.t 2), none⟩,
⟨some 14, .load none (.t 13), none⟩,
⟨some 15, .mov (.t 5), none⟩,
⟨some 16, .iadr 3 (.t 14) (.t 15), none⟩,
⟨some 17, .fadr 1 (.t 16), none⟩,
⟨some 18, .load (some 2) (.t 17), none⟩,
⟨some 19, .load (some 2) (.t 3), none⟩,
⟨some 20, .eqc 2 false (.t 18) (.t 19), none⟩] [2, 3, 5, 20])
(.cond (.t 20)
(.seq
(.region none [
⟨some 4, .mov (.c (.bool true)), none⟩] [4])
.ret)
.skip)))
(.region none [
⟨some 11, .mov (.t 5), none⟩,
⟨some 12, .bin .add (.t 11) (.c (.int .i64 1)), none⟩,
⟨some 5, .mov (.t 12), none⟩] [2, 3, 5]))))))
(.seq
(.region none [
⟨some 4, .mov (.c (.bool false)), none⟩] [4])
.ret))),
[.tmp 4]⟩

theorem x124_ok : chkFunc Go.Proofs.Tryz.prog (fun _ => true) x124 124 = true := by decide +kernel

/-- peloton/pelotonref09.Added -/
def x125 : XFunc := ⟨2,
(.seq
(.region none [
⟨some 2, .box (.t 0), none⟩,
⟨some 3, .box (.t 1), none⟩,
⟨some 4, .alloc [.int .i64 0, .int .i64 0, .sl 3 true [], .int .i64 0, .sl 3 true [], .sl 1 true [], .sl 1 true [], .sl 1 true [], .sl 5 true [], .sl 1 true [], .sl 3 true []], none⟩,
⟨some 5, .mov (.c (.int .i64 0)), none⟩,
⟨some 6, .mov (.c (.int .i64 0)), none⟩] [2, 3, 4])
(.seq
(.region none [
⟨some 16, .fadr 3 (.t 2), none⟩,
⟨some 17, .load (some 2) (.t 16), none⟩,
⟨some 18, .load (some 2) (.t 3), none⟩,
⟨some 19, .call .pur 183 [(.t 17), (.t 18)], none⟩,
⟨some 15, .mov (.t 19), none⟩,
⟨some 20, .ext 0 (.t 15), none⟩,
⟨some 21, .ext 1 (.t 15), none⟩,
⟨some 22, .ext 2 (.t 15), none⟩,
⟨some 7, .alloc [.int .i64 0, .sl 3 true []], none⟩,
⟨none, .store 2 (.t 7) (.t 20), none⟩,
⟨some 8, .mov (.t 21), none⟩,
⟨some 9, .mov (.t 22), none⟩] [2, 3, 4, 7, 8, 9])
(.seq
(.seq
(.region none [
⟨some 23, .mov (.t 9), none⟩,
⟨some 24, .bin .neq (.t 23) (.c (.int .i64 0)), none⟩] [2, 3, 4, 7, 8, 9, 24])
(.cond (.t 24)
(.seq
(.region none [
⟨some 25, .build [.int .i64 0, .int .i64 0, .sl 3 true [], .int .i64 0, .sl 3 true [], .sl 1 true [], .sl 1 true [], .sl 1 true [], .sl 5 true [], .sl 1 true [], .sl 3 true []] [], none⟩,
⟨some 26, .mov (.t 9), none⟩,
⟨none, .store 11 (.t 4) (.t 25), none⟩,
⟨some 5, .mov (.c (.int .i64 0)), none⟩,
⟨some 6, .mov (.t 26), none⟩] [4, 5, 6])
.ret)
.skip))
(.seq
(.region none [
⟨some 27, .load (some 11) (.t 2), none⟩,
⟨some 28, .call .own 12 [(.t 27)], none⟩,
⟨some 10, .alloc [.int .i64 0, .int .i64 0, .sl 3 true [], .int .i64 0, .sl 3 true [], .sl 1 true [], .sl 1 true [], .sl 1 true [], .sl 5 true [], .sl 1 true [], .sl 3 true []], none⟩,
⟨none, .store 11 (.t 10) (.t 28), none⟩] [2, 3, 4, 7, 8, 10])
(.seq
(.region none [
⟨some 29, .load (some 2) (.t 7), none⟩,
⟨some 30, .fadr 3 (.t 10), none⟩,
⟨none, .store 2 (.t 30) (.t 29), none⟩] [2, 3, 4, 8, 10])
(.seq
(.region none [
⟨some 32, .fadr 2 (.t 2), none⟩,
⟨some 33, .load (some 1) (.t 32), none⟩,
⟨some 34, .load (some 2) (.t 3), none⟩,
⟨some 35, .fadr 0 (.t 2), none⟩,
⟨some 36, .load (some 2) (.t 35), none⟩,
⟨some 37, .call .pur 120 [(.t 33), (.t 34), (.t 36)], none⟩,
⟨some 31, .mov (.t 37), none⟩,
⟨some 38, .ext 0 (.t 31), none⟩,
⟨some 39, .ext 1 (.t 31), none⟩,
⟨some 11, .alloc [.int .i64 0, .int .i64 0], none⟩,
⟨none, .store 2 (.t 11) (.t 38), none⟩,
⟨some 12, .mov (.t 39), none⟩] [2, 4, 8, 10, 11, 12])
(.seq
(.seq
(.region none [
⟨some 40, .mov (.t 12), none⟩,
⟨some 41, .un .not (.t 40), none⟩] [2, 4, 8, 10, 11, 41])
(.cond (.t 41)
(.seq
(.region none [
⟨some 42, .load (some 11) (.t 10), none⟩,
⟨some 43, .mov (.t 8), none⟩,
⟨none, .store 11 (.t 4) (.t 42), none⟩,
⟨some 5, .mov (.t 43), none⟩,
⟨some 6, .mov (.c (.int .i64 0)), none⟩] [4, 5, 6])
.ret)
.skip))
(.seq
(.seq
(.region none [
⟨some 44, .fadr 5 (.t 2), none⟩,
⟨some 45, .fadr 0 (.t 44), none⟩,
⟨some 46, .load (some 3) (.t 45), none⟩,
⟨some 47, .call .pur 181 [(.t 46)], none⟩,
⟨some 48, .un .not (.t 47), none⟩] [2, 4, 8, 10, 11, 48])
(.cond (.t 48)
(.seq
(.region none [
⟨some 49, .build [.int .i64 0, .int .i64 0, .sl 3 true [], .int .i64 0, .sl 3 true [], .sl 1 true [], .sl 1 true [], .sl 1 true [], .sl 5 true [], .sl 1 true [], .sl 3 true []] [], none⟩,
⟨none, .store 11 (.t 4) (.t 49), none⟩,
⟨some 5, .mov (.c (.int .i64 0)), none⟩,
⟨some 6, .mov (.c (.int .i64 18)), none⟩] [4, 5, 6])
.ret)
.skip))
(.seq
(.region none [
⟨some 51, .fadr 5 (.t 2), none⟩,
⟨some 52, .load (some 5) (.t 51), none⟩,
⟨some 53, .load (some 2) (.t 11), none⟩,
⟨some 54, .mov (.t 8), none⟩,
⟨some 55, .call .pur 182 [(.t 52), (.t 53), (.t 54)], none⟩,
⟨some 50, .mov (.t 55), none⟩,
⟨some 56, .ext 0 (.t 50), none⟩,
⟨some 57, .ext 1 (.t 50), none⟩,
⟨some 13, .alloc [.sl 1 true [], .sl 1 true [], .sl 1 true [], .sl 5 true [], .sl 1 true []], none⟩,
⟨some 14, .alloc [.int .i64 0, .int .i64 0], none⟩,
⟨none, .store 5 (.t 13) (.t 56), none⟩,
⟨none, .store 2 (.t 14) (.t 57), none⟩] [4, 8, 10, 13, 14])
(.seq
(.region none [
⟨some 58, .load (some 5) (.t 13), none⟩,
⟨some 59, .fadr 5 (.t 10), none⟩,
⟨none, .store 5 (.t 59) (.t 58), none⟩] [4, 8, 10, 14])
(.seq
(.region none [
⟨some 60, .fadr 10 (.t 10), none⟩,
⟨some 61, .load none (.t 60), none⟩,
⟨some 62, .mov (.t 8), none⟩,
⟨some 63, .load (some 2) (.t 14), none⟩,
⟨some 64, .build [.int .i64 0, .int .i64 0, .int .i64 0] [(0, 1, (.t 62)), (1, 2, (.t 63))], none⟩,
⟨some 65, .mkrow 3 1 [.int .i64 0, .int .i64 0, .int .i64 0] [(0, (.t 64))], none⟩,
⟨some 66, .append 3 (.t 61) (.t 65), none⟩,
⟨some 67, .fadr 10 (.t 10), none⟩,
⟨none, .store 1 (.t 67) (.t 66), none⟩] [4, 8, 10])
(.seq
(.region none [
⟨some 68, .load (some 11) (.t 10), none⟩,
⟨some 69, .mov (.t 8), none⟩,
⟨none, .store 11 (.t 4) (.t 68), none⟩,
⟨some 5, .mov (.t 69), none⟩,
⟨some 6, .mov (.c (.int .i64 0)), none⟩] [4, 5, 6])
.ret)))))))))))),
[.cell 4 (some 11), .tmp 5, .tmp 6]⟩

theorem x125_ok : chkFunc Go.Proofs.Tryz.prog (fun _ => true) x125 125 = true := by decide +kernel

/-- peloton/ratio.gcd -/
def x128 : XFunc := ⟨2,
(.seq
(.region none [
⟨some 4, .mov (.c (.int .u64 0)), none⟩] [0, 1])
(.seq
(.block 0
(.loop [(0, none), (1, none)]
(.seq
(.seq
(.region none [
⟨some 5, .mov (.t 1), none⟩,
⟨some 6, .bin .gtr (.t 5) (.c (.int .u64 0)), none⟩] [0, 1, 6])
(.cond (.t 6)
.skip
(.exit 0)))
(.block 1
(.region (some [0, 0, 0, 6, 3, 31]) [
⟨some 7, .mov (.t 1), none⟩,
⟨some 8, .mov (.t 0), none⟩,
⟨some 9, .mov (.t 1), none⟩,
⟨some 10, .bin .rem (.t 8) (.t 9), none⟩,
⟨some 0, .mov (.t 7), none⟩,
⟨some 1, .mov (.t 10), none⟩] [0, 1])))))
(.seq
(.region none [
⟨some 11, .mov (.t 0), none⟩,
⟨some 4, .mov (.t 11), none⟩] [4])
.ret))),
[.tmp 4]⟩

theorem x128_ok : chkFunc Go.Proofs.Tryz.prog (fun _ => true) x128 128 = true := by decide +kernel

/-- peloton/ratio.abs -/
def x129 : XFunc := ⟨1,
(.seq
(.region none [
⟨some 2, .mov (.c (.int .u64 0)), none⟩] [0])
(.seq
(.seq
(.region none [
⟨some 3, .mov (.t 0), none⟩,
⟨some 4, .bin .lss (.t 3) (.c (.int .i64 0)), none⟩] [0, 4])
(.cond (.t 4)
(.seq
(.region none [
⟨some 5, .mov (.t 0), none⟩,
⟨some 6, .conv .u64 (.t 5), none⟩,
⟨some 7, .un .neg (.t 6), none⟩,
⟨some 2, .mov (.t 7), none⟩] [2])
.ret)
.skip))
(.seq
(.region none [
⟨some 8, .mov (.t 0), none⟩,
⟨some 9, .conv .u64 (.t 8), none⟩,
⟨some 2, .mov (.t 9), none⟩] [2])
.ret))),
[.tmp 2]⟩

theorem x129_ok : chkFunc Go.Proofs.Tryz.prog (fun _ => true) x129 129 = true := by decide +kernel

/-- peloton/ratio.both -/
def x130 : XFunc := ⟨2,
(.seq
(.region none [
⟨some 2, .box (.t 0), none⟩,
⟨some 3, .box (.t 1), none⟩,
⟨some 4, .mov (.c (.int .i64 0)), none⟩] [2, 3])
(.seq
(.region (some [0, 1, 0, 7, 15, 31]) [
⟨some 5, .load (some 2) (.t 2), none⟩,
⟨some 6, .call .pur 65 [(.t 5)], none⟩,
⟨some 7, .load (some 2) (.t 3), none⟩,
⟨some 8, .call .pur 65 [(.t 7)], none⟩,
⟨some 9, .mm true (.t 6) [(.t 8)], none⟩,
⟨some 4, .mov (.t 9), none⟩] [4])
.ret)),
[.tmp 4]⟩

theorem x130_ok : chkFunc Go.Proofs.Tryz.prog (fun _ => true) x130 130 = true := by decide +kernel

/-- cmp.Compare[int64] -/
def x131 : XFunc := ⟨2,
(.seq
(.region none [
⟨some 4, .mov (.c (.int .i64 0)), none⟩] [0, 1])
(.seq
(.region none [
⟨some 7, .mov (.t 0), none⟩,
⟨some 8, .call .pur 185 [(.t 7)], none⟩,
⟨some 5, .mov (.t 8), none⟩] [0, 1, 5])
(.seq
(.region none [
⟨some 9, .mov (.t 1), none⟩,
⟨some 10, .call .pur 185 [(.t 9)], none⟩,
⟨some 6, .mov (.t 10), none⟩] [0, 1, 5, 6])
(.seq
(.seq
(.region none [
⟨some 11, .mov (.t 5), none⟩] [0, 1, 6, 11])
(.cond (.t 11)
(.seq
(.seq
(.region none [
⟨some 12, .mov (.t 6), none⟩] [12])
(.cond (.t 12)
(.seq
(.region none [
⟨some 4, .mov (.c (.int .i64 0)), none⟩] [4])
.ret)
.skip))
(.seq
(.region none [
⟨some 4, .mov (.c (.int .i64 (-1))), none⟩] [4])
.ret))
.skip))
(.seq
(.seq
(.region none [
⟨some 13, .mov (.t 6), none⟩] [0, 1, 13])
(.cond (.t 13)
(.seq
(.region none [
⟨some 4, .mov (.c (.int .i64 1)), none⟩] [4])
.ret)
.skip))
(.seq
(.seq
(.region none [
⟨some 14, .mov (.t 0), none⟩,
⟨some 15, .mov (.t 1), none⟩,
⟨some 16, .bin .lss (.t 14) (.t 15), none⟩] [0, 1, 16])
(.cond (.t 16)
(.seq
(.region none [
⟨some 4, .mov (.c (.int .i64 (-1))), none⟩] [4])
.ret)
.skip))
(.seq
(.seq
(.region none [
⟨some 17, .mov (.t 0), none⟩,
⟨some 18, .mov (.t 1), none⟩,
⟨some 19, .bin .gtr (.t 17) (.t 18), none⟩] [19])
(.cond (.t 19)
(.seq
(.region none [
⟨some 4, .mov (.c (.int .i64 1)), none⟩] [4])
.ret)
.skip))
(.seq
(.region none [
⟨some 4, .mov (.c (.int .i64 0)), none⟩] [4])
.ret)))))))),
[.tmp 4]⟩

theorem x131_ok : chkFunc Go.Proofs.Tryz.prog (fun _ => true) x131 131 = true := by decide +kernel

/-- peloton/ratio.compare -/
def x132 : XFunc := ⟨2,
(.seq
(.region none [
⟨some 2, .box (.t 0), none⟩,
⟨some 3, .box (.t 1), none⟩,
⟨some 4, .mov (.c (.int .i64 0)), none⟩] [2, 3])
(.seq
(.seq
(.region none [
⟨some 6, .fadr 1 (.t 2), none⟩,
⟨some 7, .load none (.t 6), none⟩,
⟨some 8, .fadr 1 (.t 3), none⟩,
⟨some 9, .load none (.t 8), none⟩,
⟨some 10, .call .pur 186 [(.t 7), (.t 9)], none⟩,
⟨some 5, .mov (.t 10), none⟩] [2, 3, 5])
(.seq
(.region none [
⟨some 11, .mov (.t 5), none⟩,
⟨some 12, .bin .neq (.t 11) (.c (.int .i64 0)), none⟩] [2, 3, 5, 12])
(.cond (.t 12)
(.seq
(.region none [
⟨some 13, .mov (.t 5), none⟩,
⟨some 4, .mov (.t 13), none⟩] [4])
.ret)
.skip)))
(.seq
(.region none [
⟨some 14, .fadr 2 (.t 2), none⟩,
⟨some 15, .load none (.t 14), none⟩,
⟨some 16, .fadr 2 (.t 3), none⟩,
⟨some 17, .load none (.t 16), none⟩,
⟨some 18, .call .pur 186 [(.t 15), (.t 17)], none⟩,
⟨some 4, .mov (.t 18), none⟩] [4])
.ret))),
[.tmp 4]⟩

theorem x132_ok : chkFunc Go.Proofs.Tryz.prog (fun _ => true) x132 132 = true := by decide +kernel

/-- peloton/ratio.times -/
def x133 : XFunc := ⟨2,
(.seq
(.region none [
⟨some 4, .alloc [.bool false, .int .u64 0, .int .u64 0], none⟩] [0, 1, 4])
(.seq
(.region none [
⟨some 8, .mov (.t 0), none⟩,
⟨some 9, .call .pur 129 [(.t 8)], none⟩,
⟨some 10, .mov (.t 1), none⟩,
⟨some 11, .call .pur 129 [(.t 10)], none⟩,
⟨some 12, .call .pur 187 [(.t 9), (.t 11)], none⟩,
⟨some 7, .mov (.t 12), none⟩,
⟨some 13, .ext 0 (.t 7), none⟩,
⟨some 14, .ext 1 (.t 7), none⟩,
⟨some 5, .mov (.t 13), none⟩,
⟨some 6, .mov (.t 14), none⟩] [0, 1, 4, 5, 6])
(.seq
(.region none [
⟨some 15, .mov (.t 0), none⟩,
⟨some 16, .bin .lss (.t 15) (.c (.int .i64 0)), none⟩,
⟨some 17, .mov (.t 1), none⟩,
⟨some 18, .bin .lss (.t 17) (.c (.int .i64 0)), none⟩,
⟨some 19, .binb true (.t 16) (.t 18), none⟩,
⟨some 20, .mov (.t 5), none⟩,
⟨some 21, .mov (.t 6), none⟩,
⟨some 22, .build [.bool false, .int .u64 0, .int .u64 0] [(0, 1, (.t 19)), (1, 1, (.t 20)), (2, 1, (.t 21))], none⟩,
⟨none, .store 3 (.t 4) (.t 22), none⟩] [4])
.ret))),
[.cell 4 (some 3)]⟩

theorem x133_ok : chkFunc Go.Proofs.Tryz.prog (fun _ => true) x133 133 = true := by decide +kernel
end Go.Proofs.YtcpamijbhidheaaGreat
