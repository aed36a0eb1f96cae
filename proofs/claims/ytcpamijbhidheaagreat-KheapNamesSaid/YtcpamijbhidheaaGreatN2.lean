/- Functions of the seat as the logical machine runs them, and the look at each of them (2). Printed by a program. -/
import Derived.Test.YtcpamijbhidheaaGreatVm3
import Derived.Test.YtcpamijbhidheaaGreatProg
set_option maxRecDepth 100000
namespace Go.Proofs.YtcpamijbhidheaaGreat
open Go.Vm
/-- peloton/clock.Fail -/
def x134 : XFunc := ⟨2,
(.seq
(.region none [
⟨some 2, .box (.t 0), none⟩,
⟨some 3, .box (.t 1), none⟩,
⟨some 4, .alloc [.int .i64 0, .int .i64 0, .sl 3 true [], .int .i64 0, .sl 3 true [], .sl 1 true [], .sl 1 true [], .sl 1 true [], .sl 5 true [], .sl 1 true [], .sl 3 true []], none⟩,
⟨some 5, .alloc [.int .i64 0, .int .i64 0, .int .i64 0, .int .i64 0, .int .i64 0], none⟩,
⟨some 6, .alloc [.int .i64 0, .int .i64 0], none⟩,
⟨some 7, .mov (.c (.int .i64 0)), none⟩] [2, 3, 4, 5, 6])
(.seq
(.region none [
⟨some 14, .load (some 11) (.t 2), none⟩,
⟨some 15, .load (some 2) (.t 3), none⟩,
⟨some 16, .call .pur 136 [(.t 14), (.t 15)], none⟩,
⟨some 13, .mov (.t 16), none⟩,
⟨some 17, .ext 0 (.t 13), none⟩,
⟨some 18, .ext 1 (.t 13), none⟩,
⟨some 8, .mov (.t 17), none⟩,
⟨some 9, .mov (.t 18), none⟩] [2, 4, 5, 6, 8, 9])
(.seq
(.seq
(.region none [
⟨some 19, .mov (.t 9), none⟩,
⟨some 20, .bin .eql (.t 19) (.c (.int .i64 0)), none⟩,
⟨some 21, .mov (.t 20), none⟩,
⟨some 22, .mov (.t 8), (some (21, true))⟩,
⟨some 23, .un .not (.t 22), (some (21, true))⟩,
⟨some 24, .pick (.t 21) (.t 23) (.c (.bool false)), none⟩] [2, 4, 5, 6, 9, 24])
(.cond (.t 24)
(.region none [
⟨some 9, .mov (.c (.int .i64 6)), none⟩] [2, 4, 5, 6, 9])
.skip))
(.seq
(.seq
(.region none [
⟨some 25, .mov (.t 9), none⟩,
⟨some 26, .bin .neq (.t 25) (.c (.int .i64 0)), none⟩] [2, 4, 5, 6, 9, 26])
(.cond (.t 26)
(.seq
(.region none [
⟨some 27, .build [.int .i64 0, .int .i64 0, .sl 3 true [], .int .i64 0, .sl 3 true [], .sl 1 true [], .sl 1 true [], .sl 1 true [], .sl 5 true [], .sl 1 true [], .sl 3 true []] [], none⟩,
⟨some 28, .build [.int .i64 0, .int .i64 0, .int .i64 0, .int .i64 0, .int .i64 0] [], none⟩,
⟨some 29, .build [.int .i64 0, .int .i64 0] [], none⟩,
⟨some 30, .mov (.t 9), none⟩,
⟨none, .store 11 (.t 4) (.t 27), none⟩,
⟨none, .store 5 (.t 5) (.t 28), none⟩,
⟨none, .store 2 (.t 6) (.t 29), none⟩,
⟨some 7, .mov (.t 30), none⟩] [4, 5, 6, 7])
.ret)
.skip))
(.seq
(.region none [
⟨some 31, .fadr 5 (.t 2), none⟩,
⟨some 32, .fadr 3 (.t 31), none⟩,
⟨some 33, .load none (.t 32), none⟩,
⟨some 34, .iadr 5 (.t 33) (.c (.int .i64 0)), none⟩,
⟨some 35, .load (some 5) (.t 34), none⟩,
⟨some 10, .alloc [.int .i64 0, .int .i64 0, .int .i64 0, .int .i64 0, .int .i64 0], none⟩,
⟨none, .store 5 (.t 10) (.t 35), none⟩] [2, 4, 5, 6, 10])
(.seq
(.region none [
⟨some 37, .load (some 11) (.t 2), none⟩,
⟨some 38, .fadr 2 (.t 10), none⟩,
⟨some 39, .load none (.t 38), none⟩,
⟨some 40, .call .pur 167 [(.t 37), (.t 39)], none⟩,
⟨some 36, .mov (.t 40), none⟩,
⟨some 41, .ext 0 (.t 36), none⟩,
⟨some 42, .ext 1 (.t 36), none⟩,
⟨some 43, .ext 2 (.t 36), none⟩,
⟨some 11, .alloc [.int .i64 0, .int .i64 0, .sl 3 true [], .int .i64 0, .sl 3 true [], .sl 1 true [], .sl 1 true [], .sl 1 true [], .sl 5 true [], .sl 1 true [], .sl 3 true []], none⟩,
⟨some 12, .alloc [.int .i64 0, .int .i64 0], none⟩,
⟨none, .store 11 (.t 11) (.t 41), none⟩,
⟨none, .store 2 (.t 12) (.t 42), none⟩,
⟨some 9, .mov (.t 43), none⟩] [4, 5, 6, 9, 10, 11, 12])
(.seq
(.seq
(.region none [
⟨some 44, .mov (.t 9), none⟩,
⟨some 45, .bin .neq (.t 44) (.c (.int .i64 0)), none⟩] [4, 5, 6, 9, 10, 11, 12, 45])
(.cond (.t 45)
(.seq
(.region none [
⟨some 46, .build [.int .i64 0, .int .i64 0, .sl 3 true [], .int .i64 0, .sl 3 true [], .sl 1 true [], .sl 1 true [], .sl 1 true [], .sl 5 true [], .sl 1 true [], .sl 3 true []] [], none⟩,
⟨some 47, .build [.int .i64 0, .int .i64 0, .int .i64 0, .int .i64 0, .int .i64 0] [], none⟩,
⟨some 48, .build [.int .i64 0, .int .i64 0] [], none⟩,
⟨some 49, .mov (.t 9), none⟩,
⟨none, .store 11 (.t 4) (.t 46), none⟩,
⟨none, .store 5 (.t 5) (.t 47), none⟩,
⟨none, .store 2 (.t 6) (.t 48), none⟩,
⟨some 7, .mov (.t 49), none⟩] [4, 5, 6, 7])
.ret)
.skip))
(.seq
(.region none [
⟨some 50, .fadr 0 (.t 10), none⟩,
⟨some 51, .load (some 2) (.t 50), none⟩,
⟨some 52, .fadr 0 (.t 11), none⟩,
⟨none, .store 2 (.t 52) (.t 51), none⟩] [4, 5, 6, 10, 11, 12])
(.seq
(.region (some [0, 0, 0, 1, 11, 31, 63]) [
⟨some 53, .load (some 11) (.t 11), none⟩,
⟨some 54, .load (some 5) (.t 10), none⟩,
⟨some 55, .load (some 2) (.t 12), none⟩,
⟨none, .store 11 (.t 4) (.t 53), none⟩,
⟨none, .store 5 (.t 5) (.t 54), none⟩,
⟨none, .store 2 (.t 6) (.t 55), none⟩,
⟨some 7, .mov (.c (.int .i64 0)), none⟩] [4, 5, 6, 7])
.ret))))))))),
[.cell 4 (some 11), .cell 5 (some 5), .cell 6 (some 2), .tmp 7]⟩

theorem x134_ok : chkFunc Go.Proofs.Tryz.prog (fun _ => true) x134 134 = true := by decide +kernel

/-- slices.Index[[]int,int] -/
def x135 : XFunc := ⟨2,
(.seq
(.region none [
⟨some 4, .mov (.c (.int .i64 0)), none⟩] [0, 1])
(.seq
(.seq
(.region none [
⟨some 6, .mov (.t 0), none⟩,
⟨some 7, .len (.t 6), none⟩,
⟨some 8, .mov (.c (.int .i64 0)), none⟩] [0, 1, 7, 8])
(.block 0
(.loop [(0, none), (1, none), (7, none), (8, none)]
(.seq
(.region none [
⟨some 9, .bin .lss (.t 8) (.t 7), none⟩] [0, 1, 7, 8, 9])
(.seq
(.cond (.t 9)
.skip
(.exit 0))
(.seq
(.block 1
(.seq
(.region none [
⟨some 10, .mov (.t 8), none⟩,
⟨some 5, .mov (.t 10), none⟩] [0, 1, 5, 7, 8])
(.seq
(.region none [
⟨some 11, .mov (.t 1), none⟩,
⟨some 12, .mov (.t 0), none⟩,
⟨some 13, .mov (.t 5), none⟩,
⟨some 14, .iadr 1 (.t 12) (.t 13), none⟩,
⟨some 15, .load none (.t 14), none⟩,
⟨some 16, .bin .eql (.t 11) (.t 15), none⟩] [0, 1, 5, 7, 8, 16])
(.cond (.t 16)
(.seq
(.region none [
⟨some 17, .mov (.t 5), none⟩,
⟨some 4, .mov (.t 17), none⟩] [4])
.ret)
.skip))))
(.region none [
⟨some 18, .bin .add (.t 8) (.c (.int .i64 1)), none⟩,
⟨some 8, .mov (.t 18), none⟩] [0, 1, 7, 8])))))))
(.seq
(.region none [
⟨some 4, .mov (.c (.int .i64 (-1))), none⟩] [4])
.ret))),
[.tmp 4]⟩

theorem x135_ok : chkFunc Go.Proofs.Tryz.prog (fun _ => true) x135 135 = true := by decide +kernel

/-- peloton/clock.until -/
def x136 : XFunc := ⟨2,
(.seq
(.region none [
⟨some 2, .box (.t 0), none⟩,
⟨some 3, .box (.t 1), none⟩,
⟨some 4, .mov (.c (.bool false)), none⟩,
⟨some 5, .mov (.c (.int .i64 0)), none⟩] [2, 3])
(.seq
(.seq
(.region (some [0, 1, 0, 7, 15, 31]) [
⟨some 13, .load (some 11) (.t 2), none⟩,
⟨some 14, .call .pur 54 [(.t 13)], none⟩,
⟨some 15, .load (some 2) (.t 3), none⟩,
⟨some 16, .call .pur 65 [(.t 15)], none⟩,
⟨some 17, .mm true (.t 14) [(.t 16)], none⟩,
⟨some 6, .mov (.t 17), none⟩] [2, 3, 6])
(.seq
(.region none [
⟨some 18, .mov (.t 6), none⟩,
⟨some 19, .bin .neq (.t 18) (.c (.int .i64 0)), none⟩] [2, 3, 6, 19])
(.cond (.t 19)
(.seq
(.region none [
⟨some 20, .mov (.t 6), none⟩,
⟨some 4, .mov (.c (.bool false)), none⟩,
⟨some 5, .mov (.t 20), none⟩] [4, 5])
.ret)
.skip)))
(.seq
(.seq
(.region none [
⟨some 22, .load (some 2) (.t 3), none⟩,
⟨some 23, .fadr 0 (.t 2), none⟩,
⟨some 24, .load (some 2) (.t 23), none⟩,
⟨some 25, .call .pur 66 [(.t 22), (.t 24)], none⟩,
⟨some 21, .mov (.t 25), none⟩,
⟨some 26, .ext 0 (.t 21), none⟩,
⟨some 27, .ext 1 (.t 21), none⟩,
⟨some 7, .mov (.t 26), none⟩,
⟨some 8, .mov (.t 27), none⟩] [2, 3, 7])
(.seq
(.region none [
⟨some 28, .mov (.t 7), none⟩,
⟨some 29, .bin .lss (.t 28) (.c (.int .i64 0)), none⟩] [2, 3, 29])
(.cond (.t 29)
(.seq
(.region none [
⟨some 4, .mov (.c (.bool false)), none⟩,
⟨some 5, .mov (.c (.int .i64 44)), none⟩] [4, 5])
.ret)
.skip)))
(.seq
(.region none [
⟨some 31, .fadr 5 (.t 2), none⟩,
⟨some 32, .load (some 5) (.t 31), none⟩,
⟨some 33, .call .pur 142 [(.t 32)], none⟩,
⟨some 30, .mov (.t 33), none⟩,
⟨some 34, .ext 0 (.t 30), none⟩,
⟨some 35, .ext 1 (.t 30), none⟩,
⟨some 9, .alloc [.int .i64 0, .int .i64 0, .int .i64 0, .int .i64 0, .int .i64 0], none⟩,
⟨none, .store 5 (.t 9) (.t 34), none⟩,
⟨some 10, .mov (.t 35), none⟩] [3, 9, 10])
(.seq
(.seq
(.region none [
⟨some 36, .mov (.t 10), none⟩,
⟨some 37, .bin .neq (.t 36) (.c (.int .i64 0)), none⟩] [3, 9, 37])
(.cond (.t 37)
(.seq
(.region none [
⟨some 4, .mov (.c (.bool false)), none⟩,
⟨some 5, .mov (.c (.int .i64 0)), none⟩] [4, 5])
.ret)
.skip))
(.seq
(.region none [
⟨some 39, .fadr 0 (.t 9), none⟩,
⟨some 40, .load (some 2) (.t 39), none⟩,
⟨some 41, .load (some 2) (.t 3), none⟩,
⟨some 42, .call .pur 66 [(.t 40), (.t 41)], none⟩,
⟨some 38, .mov (.t 42), none⟩,
⟨some 43, .ext 0 (.t 38), none⟩,
⟨some 44, .ext 1 (.t 38), none⟩,
⟨some 11, .mov (.t 43), none⟩,
⟨some 12, .mov (.t 44), none⟩] [11])
(.seq
(.region none [
⟨some 45, .mov (.t 11), none⟩,
⟨some 46, .bin .leq (.t 45) (.c (.int .i64 0)), none⟩,
⟨some 4, .mov (.t 46), none⟩,
⟨some 5, .mov (.c (.int .i64 0)), none⟩] [4, 5])
.ret))))))),
[.tmp 4, .tmp 5]⟩

theorem x136_ok : chkFunc Go.Proofs.Tryz.prog (fun _ => true) x136 136 = true := by decide +kernel

/-- peloton/clock.twin -/
def x137 : XFunc := ⟨1,
(.seq
(.region none [
⟨some 1, .box (.t 0), none⟩,
⟨some 2, .alloc [.int .i64 0, .int .i64 0, .sl 3 true [], .int .i64 0, .sl 3 true [], .sl 1 true [], .sl 1 true [], .sl 1 true [], .sl 5 true [], .sl 1 true [], .sl 3 true []], none⟩] [1, 2])
(.seq
(.region (some [0, 1, 3, 7, 0, 16, 48, 127, 0, 256, 1023, 2047, 4095, 8191, 16383, 32767, 65535, 131071, 262143]) [
⟨some 4, .fadr 2 (.t 1), none⟩,
⟨some 5, .fadr 0 (.t 4), none⟩,
⟨some 6, .load none (.t 5), none⟩,
⟨some 7, .call .pur 112 [(.t 6)], none⟩,
⟨some 8, .fadr 3 (.t 1), none⟩,
⟨some 9, .fadr 1 (.t 8), none⟩,
⟨some 10, .load none (.t 9), none⟩,
⟨some 11, .call .pur 113 [(.t 10)], none⟩,
⟨some 12, .fadr 10 (.t 1), none⟩,
⟨some 13, .load none (.t 12), none⟩,
⟨some 14, .call .pur 114 [(.t 13)], none⟩,
⟨some 15, .fadr 2 (.t 1), none⟩,
⟨some 16, .fadr 0 (.t 15), none⟩,
⟨none, .store 1 (.t 16) (.t 7), none⟩,
⟨some 17, .fadr 3 (.t 1), none⟩,
⟨some 18, .fadr 1 (.t 17), none⟩,
⟨none, .store 1 (.t 18) (.t 11), none⟩,
⟨some 19, .fadr 10 (.t 1), none⟩,
⟨none, .store 1 (.t 19) (.t 14), none⟩] [1, 2])
(.seq
(.region (some [0, 1, 3, 7, 0, 16, 48, 127, 255, 511, 1023, 2047, 4095, 8191]) [
⟨some 20, .fadr 5 (.t 1), none⟩,
⟨some 21, .fadr 3 (.t 20), none⟩,
⟨some 22, .load none (.t 21), none⟩,
⟨some 23, .call .pur 115 [(.t 22)], none⟩,
⟨some 24, .fadr 5 (.t 1), none⟩,
⟨some 25, .fadr 4 (.t 24), none⟩,
⟨some 26, .load none (.t 25), none⟩,
⟨some 27, .call .pur 69 [(.t 26)], none⟩,
⟨some 28, .fadr 5 (.t 1), none⟩,
⟨some 29, .fadr 3 (.t 28), none⟩,
⟨none, .store 1 (.t 29) (.t 23), none⟩,
⟨some 30, .fadr 5 (.t 1), none⟩,
⟨some 31, .fadr 4 (.t 30), none⟩,
⟨none, .store 1 (.t 31) (.t 27), none⟩] [1, 2])
(.seq
(.region none [
⟨some 32, .fadr 5 (.t 1), none⟩,
⟨some 33, .fadr 0 (.t 32), none⟩,
⟨some 3, .mov (.t 33), none⟩] [1, 2, 3])
(.seq
(.region (some [0, 0, 0, 0, 8, 24, 56, 120, 0, 256, 768, 1792, 4088, 0, 8192, 24576, 57344, 131064, 262137, 524281, 1048569, 2097147, 4194299, 8388603, 16777215, 33554431, 67108863]) [
⟨some 34, .mov (.t 3), none⟩,
⟨some 35, .mov (.t 3), none⟩,
⟨some 36, .mov (.t 3), none⟩,
⟨some 37, .mov (.t 3), none⟩,
⟨some 38, .nilc (.t 37), none⟩,
⟨some 39, .fadr 0 (.t 38), none⟩,
⟨some 40, .load none (.t 39), none⟩,
⟨some 41, .call .pur 69 [(.t 40)], none⟩,
⟨some 42, .mov (.t 3), none⟩,
⟨some 43, .nilc (.t 42), none⟩,
⟨some 44, .fadr 1 (.t 43), none⟩,
⟨some 45, .load none (.t 44), none⟩,
⟨some 46, .call .pur 116 [(.t 45)], none⟩,
⟨some 47, .mov (.t 3), none⟩,
⟨some 48, .nilc (.t 47), none⟩,
⟨some 49, .fadr 2 (.t 48), none⟩,
⟨some 50, .load none (.t 49), none⟩,
⟨some 51, .call .pur 69 [(.t 50)], none⟩,
⟨some 52, .nilc (.t 34), none⟩,
⟨some 53, .fadr 0 (.t 52), none⟩,
⟨none, .store 1 (.t 53) (.t 41), none⟩,
⟨some 54, .nilc (.t 35), none⟩,
⟨some 55, .fadr 1 (.t 54), none⟩,
⟨none, .store 1 (.t 55) (.t 46), none⟩,
⟨some 56, .nilc (.t 36), none⟩,
⟨some 57, .fadr 2 (.t 56), none⟩,
⟨none, .store 1 (.t 57) (.t 51), none⟩] [1, 2])
(.seq
(.region none [
⟨some 58, .load (some 11) (.t 1), none⟩,
⟨none, .store 11 (.t 2) (.t 58), none⟩] [2])
.ret)))))),
[.cell 2 (some 11)]⟩

theorem x137_ok : chkFunc Go.Proofs.Tryz.prog (fun _ => true) x137 137 = true := by decide +kernel

/-- peloton/agenda.New -/
def x141 : XFunc := ⟨1,
(.seq
(.region none [
⟨some 2, .alloc [.sl 1 true [], .sl 1 true [], .sl 1 true [], .sl 5 true [], .sl 1 true []], none⟩,
⟨some 3, .mov (.c (.int .i64 0)), none⟩] [0, 2])
(.seq
(.region none [
⟨some 7, .mov (.t 0), none⟩,
⟨some 8, .call .pur 189 [(.t 7)], none⟩,
⟨some 6, .mov (.t 8), none⟩,
⟨some 9, .ext 0 (.t 6), none⟩,
⟨some 10, .ext 1 (.t 6), none⟩,
⟨some 4, .alloc [.sl 1 true [], .sl 1 true [], .sl 1 true []], none⟩,
⟨none, .store 3 (.t 4) (.t 9), none⟩,
⟨some 5, .mov (.t 10), none⟩] [0, 2, 4, 5])
(.seq
(.seq
(.region none [
⟨some 11, .mov (.t 5), none⟩,
⟨some 12, .bin .neq (.t 11) (.c (.int .i64 0)), none⟩] [0, 2, 4, 5, 12])
(.cond (.t 12)
(.seq
(.region none [
⟨some 13, .build [.sl 1 true [], .sl 1 true [], .sl 1 true [], .sl 5 true [], .sl 1 true []] [], none⟩,
⟨some 14, .mov (.t 5), none⟩,
⟨none, .store 5 (.t 2) (.t 13), none⟩,
⟨some 3, .mov (.t 14), none⟩] [2, 3])
.ret)
.skip))
(.seq
(.region (some [0, 0, 0, 6, 15, 31, 63]) [
⟨some 15, .load (some 3) (.t 4), none⟩,
⟨some 16, .mkrow 1 1 [.int .i64 0] [(0, (.c (.int .i64 (-1))))], none⟩,
⟨some 17, .mov (.t 0), none⟩,
⟨some 18, .call .own 190 [(.t 16), (.t 17)], none⟩,
⟨some 19, .build [.sl 1 true [], .sl 1 true [], .sl 1 true [], .sl 5 true [], .sl 1 true []] [(0, 3, (.t 15)), (4, 1, (.t 18))], none⟩,
⟨none, .store 5 (.t 2) (.t 19), none⟩,
⟨some 3, .mov (.c (.int .i64 0)), none⟩] [2, 3])
.ret)))),
[.cell 2 (some 5), .tmp 3]⟩

theorem x141_ok : chkFunc Go.Proofs.Tryz.prog (fun _ => true) x141 141 = true := by decide +kernel

/-- peloton/agenda.Top -/
def x142 : XFunc := ⟨1,
(.seq
(.region none [
⟨some 1, .box (.t 0), none⟩,
⟨some 2, .alloc [.int .i64 0, .int .i64 0, .int .i64 0, .int .i64 0, .int .i64 0], none⟩,
⟨some 3, .mov (.c (.int .i64 0)), none⟩] [1, 2])
(.seq
(.seq
(.region none [
⟨some 5, .load (some 5) (.t 1), none⟩,
⟨some 6, .call .pur 101 [(.t 5)], none⟩,
⟨some 4, .mov (.t 6), none⟩] [1, 2, 4])
(.seq
(.region none [
⟨some 7, .mov (.t 4), none⟩,
⟨some 8, .bin .neq (.t 7) (.c (.int .i64 0)), none⟩] [1, 2, 4, 8])
(.cond (.t 8)
(.seq
(.region none [
⟨some 9, .build [.int .i64 0, .int .i64 0, .int .i64 0, .int .i64 0, .int .i64 0] [], none⟩,
⟨some 10, .mov (.t 4), none⟩,
⟨none, .store 5 (.t 2) (.t 9), none⟩,
⟨some 3, .mov (.t 10), none⟩] [2, 3])
.ret)
.skip)))
(.seq
(.seq
(.region none [
⟨some 11, .fadr 3 (.t 1), none⟩,
⟨some 12, .load none (.t 11), none⟩,
⟨some 13, .len (.t 12), none⟩,
⟨some 14, .bin .eql (.t 13) (.c (.int .i64 0)), none⟩] [1, 2, 14])
(.cond (.t 14)
(.seq
(.region none [
⟨some 15, .build [.int .i64 0, .int .i64 0, .int .i64 0, .int .i64 0, .int .i64 0] [], none⟩,
⟨none, .store 5 (.t 2) (.t 15), none⟩,
⟨some 3, .mov (.c (.int .i64 42)), none⟩] [2, 3])
.ret)
.skip))
(.seq
(.region none [
⟨some 16, .fadr 3 (.t 1), none⟩,
⟨some 17, .load none (.t 16), none⟩,
⟨some 18, .iadr 5 (.t 17) (.c (.int .i64 0)), none⟩,
⟨some 19, .load (some 5) (.t 18), none⟩,
⟨none, .store 5 (.t 2) (.t 19), none⟩,
⟨some 3, .mov (.c (.int .i64 0)), none⟩] [2, 3])
.ret)))),
[.cell 2 (some 5), .tmp 3]⟩

theorem x142_ok : chkFunc Go.Proofs.Tryz.prog (fun _ => true) x142 142 = true := by decide +kernel

/-- peloton/course.Ahead -/
def x143 : XFunc := ⟨3,
(.seq
(.region none [
⟨some 3, .box (.t 0), none⟩,
⟨some 4, .box (.t 1), none⟩,
⟨some 5, .box (.t 2), none⟩,
⟨some 6, .mov (.c (.bool false)), none⟩,
⟨some 7, .mov (.c (.int .i64 0)), none⟩] [3, 4, 5])
(.seq
(.seq
(.region none [
⟨some 9, .load (some 3) (.t 3), none⟩,
⟨some 10, .load (some 3) (.t 4), none⟩,
⟨some 11, .load (some 2) (.t 5), none⟩,
⟨some 12, .call .pur 191 [(.t 9), (.t 10), (.t 11)], none⟩,
⟨some 8, .mov (.t 12), none⟩] [3, 4, 5, 8])
(.seq
(.region none [
⟨some 13, .mov (.t 8), none⟩,
⟨some 14, .bin .neq (.t 13) (.c (.int .i64 0)), none⟩] [3, 4, 5, 8, 14])
(.cond (.t 14)
(.seq
(.region none [
⟨some 15, .mov (.t 8), none⟩,
⟨some 6, .mov (.c (.bool false)), none⟩,
⟨some 7, .mov (.t 15), none⟩] [6, 7])
.ret)
.skip)))
(.seq
(.region none [
⟨some 16, .load (some 3) (.t 3), none⟩,
⟨some 17, .load (some 3) (.t 4), none⟩,
⟨some 18, .load (some 2) (.t 5), none⟩,
⟨some 19, .call .pur 192 [(.t 16), (.t 17), (.t 18)], none⟩,
⟨some 20, .bin .gtr (.t 19) (.c (.int .i64 0)), none⟩,
⟨some 6, .mov (.t 20), none⟩,
⟨some 7, .mov (.c (.int .i64 0)), none⟩] [6, 7])
.ret))),
[.tmp 6, .tmp 7]⟩

theorem x143_ok : chkFunc Go.Proofs.Tryz.prog (fun _ => true) x143 143 = true := by decide +kernel

/-- peloton/pelotonref01.product -/
def x144 : XFunc := ⟨2,
(.seq
(.region none [
⟨some 4, .alloc [.bool false, .int .u64 0, .int .u64 0], none⟩] [0, 1, 4])
(.seq
(.region none [
⟨some 12, .mov (.t 0), none⟩,
⟨some 13, .bin .quo (.t 12) (.c (.int .u64 4294967296)), none⟩,
⟨some 14, .mov (.t 0), none⟩,
⟨some 15, .bin .rem (.t 14) (.c (.int .u64 4294967296)), none⟩,
⟨some 16, .mov (.t 1), none⟩,
⟨some 17, .bin .quo (.t 16) (.c (.int .u64 4294967296)), none⟩,
⟨some 18, .mov (.t 1), none⟩,
⟨some 19, .bin .rem (.t 18) (.c (.int .u64 4294967296)), none⟩,
⟨some 5, .mov (.t 13), none⟩,
⟨some 6, .mov (.t 15), none⟩,
⟨some 7, .mov (.t 17), none⟩,
⟨some 8, .mov (.t 19), none⟩] [4, 5, 6, 7, 8])
(.seq
(.region none [
⟨some 20, .mov (.t 6), none⟩,
⟨some 21, .mov (.t 8), none⟩,
⟨some 22, .bin .mul (.t 20) (.t 21), none⟩,
⟨some 9, .mov (.t 22), none⟩] [4, 5, 6, 7, 8, 9])
(.seq
(.region none [
⟨some 23, .mov (.t 5), none⟩,
⟨some 24, .mov (.t 8), none⟩,
⟨some 25, .bin .mul (.t 23) (.t 24), none⟩,
⟨some 26, .mov (.t 9), none⟩,
⟨some 27, .bin .quo (.t 26) (.c (.int .u64 4294967296)), none⟩,
⟨some 28, .bin .add (.t 25) (.t 27), none⟩,
⟨some 10, .mov (.t 28), none⟩] [4, 5, 6, 7, 9, 10])
(.seq
(.region none [
⟨some 29, .mov (.t 6), none⟩,
⟨some 30, .mov (.t 7), none⟩,
⟨some 31, .bin .mul (.t 29) (.t 30), none⟩,
⟨some 32, .mov (.t 10), none⟩,
⟨some 33, .bin .rem (.t 32) (.c (.int .u64 4294967296)), none⟩,
⟨some 34, .bin .add (.t 31) (.t 33), none⟩,
⟨some 11, .mov (.t 34), none⟩] [4, 5, 7, 9, 10, 11])
(.seq
(.region none [
⟨some 35, .mov (.t 5), none⟩,
⟨some 36, .mov (.t 7), none⟩,
⟨some 37, .bin .mul (.t 35) (.t 36), none⟩,
⟨some 38, .mov (.t 10), none⟩,
⟨some 39, .bin .quo (.t 38) (.c (.int .u64 4294967296)), none⟩,
⟨some 40, .bin .add (.t 37) (.t 39), none⟩,
⟨some 41, .mov (.t 11), none⟩,
⟨some 42, .bin .quo (.t 41) (.c (.int .u64 4294967296)), none⟩,
⟨some 43, .bin .add (.t 40) (.t 42), none⟩,
⟨some 44, .mov (.t 11), none⟩,
⟨some 45, .bin .rem (.t 44) (.c (.int .u64 4294967296)), none⟩,
⟨some 46, .bin .mul (.t 45) (.c (.int .u64 4294967296)), none⟩,
⟨some 47, .mov (.t 9), none⟩,
⟨some 48, .bin .rem (.t 47) (.c (.int .u64 4294967296)), none⟩,
⟨some 49, .bin .add (.t 46) (.t 48), none⟩,
⟨some 50, .build [.bool false, .int .u64 0, .int .u64 0] [(1, 1, (.t 43)), (2, 1, (.t 49))], none⟩,
⟨none, .store 3 (.t 4) (.t 50), none⟩] [4])
.ret)))))),
[.cell 4 (some 3)]⟩

theorem x144_ok : chkFunc Go.Proofs.Tryz.prog (fun _ => true) x144 144 = true := by decide +kernel

/-- peloton/pelotonref07.Begin -/
def x145 : XFunc := ⟨1,
(.seq
(.region none [
⟨some 2, .alloc [.sl 1 true [], .sl 1 true [], .sl 1 true [], .sl 5 true [], .sl 1 true []], none⟩] [0, 2])
(.seq
(.region none [
⟨some 5, .mov (.t 0), none⟩,
⟨some 6, .call .pur 193 [(.t 5)], none⟩,
⟨some 7, .build [.sl 1 true [], .sl 1 true [], .sl 1 true [], .sl 5 true [], .sl 1 true []] [(0, 3, (.t 6))], none⟩,
⟨some 3, .alloc [.sl 1 true [], .sl 1 true [], .sl 1 true [], .sl 5 true [], .sl 1 true []], none⟩,
⟨none, .store 5 (.t 3) (.t 7), none⟩] [0, 2, 3])
(.seq
(.seq
(.region none [
⟨some 4, .mov (.c (.int .i64 0)), none⟩] [0, 2, 3, 4])
(.block 0
(.loop [(0, none), (2, none), (3, none), (4, none)]
(.seq
(.seq
(.region none [
⟨some 8, .mov (.t 4), none⟩,
⟨some 9, .mov (.t 0), none⟩,
⟨some 10, .bin .lss (.t 8) (.t 9), none⟩] [0, 2, 3, 4, 10])
(.cond (.t 10)
.skip
(.exit 0)))
(.seq
(.block 1
(.region none [
⟨some 13, .fadr 4 (.t 3), none⟩,
⟨some 14, .load none (.t 13), none⟩,
⟨some 15, .mkrow 1 1 [.int .i64 0] [(0, (.c (.int .i64 (-1))))], none⟩,
⟨some 16, .append 1 (.t 14) (.t 15), none⟩,
⟨some 17, .fadr 4 (.t 3), none⟩,
⟨none, .store 1 (.t 17) (.t 16), none⟩] [0, 2, 3, 4]))
(.region none [
⟨some 11, .mov (.t 4), none⟩,
⟨some 12, .bin .add (.t 11) (.c (.int .i64 1)), none⟩,
⟨some 4, .mov (.t 12), none⟩] [0, 2, 3, 4]))))))
(.seq
(.region none [
⟨some 18, .load (some 5) (.t 3), none⟩,
⟨none, .store 5 (.t 2) (.t 18), none⟩] [2])
.ret)))),
[.cell 2 (some 5)]⟩

theorem x145_ok : chkFunc Go.Proofs.Tryz.prog (fun _ => true) x145 145 = true := by decide +kernel

/-- peloton/pelotonref07.swap -/
def x146 : XFunc := ⟨3,
(.seq
(.region none [
⟨some 3, .box (.t 0), none⟩] [1, 2, 3])
(.seq
(.region (some [0, 1, 0, 0, 8, 0, 0, 64, 0, 448, 960, 0, 2048, 0, 14336, 30720, 65479, 131015, 262143, 524287]) [
⟨some 6, .fadr 3 (.t 3), none⟩,
⟨some 7, .load none (.t 6), none⟩,
⟨some 8, .mov (.t 1), none⟩,
⟨some 9, .fadr 3 (.t 3), none⟩,
⟨some 10, .load none (.t 9), none⟩,
⟨some 11, .mov (.t 2), none⟩,
⟨some 12, .fadr 3 (.t 3), none⟩,
⟨some 13, .load none (.t 12), none⟩,
⟨some 14, .mov (.t 2), none⟩,
⟨some 15, .iadr 5 (.t 13) (.t 14), none⟩,
⟨some 16, .load (some 5) (.t 15), none⟩,
⟨some 17, .fadr 3 (.t 3), none⟩,
⟨some 18, .load none (.t 17), none⟩,
⟨some 19, .mov (.t 1), none⟩,
⟨some 20, .iadr 5 (.t 18) (.t 19), none⟩,
⟨some 21, .load (some 5) (.t 20), none⟩,
⟨some 22, .iadr 5 (.t 7) (.t 8), none⟩,
⟨none, .store 5 (.t 22) (.t 16), none⟩,
⟨some 23, .iadr 5 (.t 10) (.t 11), none⟩,
⟨none, .store 5 (.t 23) (.t 21), none⟩] [1, 2, 3])
(.region (some [0, 1, 0, 4, 0, 28, 60, 124, 252, 0, 512, 0, 2048, 0, 14336, 30720, 63488, 129024, 0, 0, 522751, 1571327, 4194303, 8388607]) [
⟨some 24, .fadr 4 (.t 3), none⟩,
⟨some 25, .load none (.t 24), none⟩,
⟨some 26, .fadr 3 (.t 3), none⟩,
⟨some 27, .load none (.t 26), none⟩,
⟨some 28, .mov (.t 1), none⟩,
⟨some 29, .iadr 5 (.t 27) (.t 28), none⟩,
⟨some 30, .fadr 3 (.t 29), none⟩,
⟨some 31, .fadr 0 (.t 30), none⟩,
⟨some 32, .load none (.t 31), none⟩,
⟨some 33, .fadr 4 (.t 3), none⟩,
⟨some 34, .load none (.t 33), none⟩,
⟨some 35, .fadr 3 (.t 3), none⟩,
⟨some 36, .load none (.t 35), none⟩,
⟨some 37, .mov (.t 2), none⟩,
⟨some 38, .iadr 5 (.t 36) (.t 37), none⟩,
⟨some 39, .fadr 3 (.t 38), none⟩,
⟨some 40, .fadr 0 (.t 39), none⟩,
⟨some 41, .load none (.t 40), none⟩,
⟨some 42, .mov (.t 1), none⟩,
⟨some 43, .mov (.t 2), none⟩,
⟨some 44, .iadr 1 (.t 25) (.t 32), none⟩,
⟨none, .store 1 (.t 44) (.t 42), none⟩,
⟨some 45, .iadr 1 (.t 34) (.t 41), none⟩,
⟨none, .store 1 (.t 45) (.t 43), none⟩] []))),
[]⟩

theorem x146_ok : chkFunc Go.Proofs.Tryz.prog (fun _ => true) x146 146 = true := by decide +kernel

/-- peloton/pelotonref06.Given -/
def x147 : XFunc := ⟨2,
(.seq
(.region none [
⟨some 2, .box (.t 0), none⟩,
⟨some 3, .box (.t 1), none⟩,
⟨some 4, .alloc [.sl 1 true [], .sl 1 true [], .sl 1 true []], none⟩] [2, 3, 4])
(.seq
(.region none [
⟨some 6, .load (some 3) (.t 2), none⟩,
⟨some 7, .call .own 99 [(.t 6)], none⟩,
⟨some 5, .alloc [.sl 1 true [], .sl 1 true [], .sl 1 true []], none⟩,
⟨none, .store 3 (.t 5) (.t 7), none⟩] [3, 4, 5])
(.seq
(.region none [
⟨some 8, .fadr 1 (.t 5), none⟩,
⟨some 9, .load none (.t 8), none⟩,
⟨some 10, .fadr 0 (.t 3), none⟩,
⟨some 11, .load none (.t 10), none⟩,
⟨some 12, .iadr 1 (.t 9) (.t 11), none⟩,
⟨none, .store 1 (.t 12) (.c (.bool false)), none⟩] [3, 4, 5])
(.seq
(.region none [
⟨some 13, .fadr 2 (.t 5), none⟩,
⟨some 14, .load none (.t 13), none⟩,
⟨some 15, .fadr 0 (.t 3), none⟩,
⟨some 16, .load none (.t 15), none⟩,
⟨some 17, .mkrow 1 1 [.int .i64 0] [(0, (.t 16))], none⟩,
⟨some 18, .append 1 (.t 14) (.t 17), none⟩,
⟨some 19, .fadr 2 (.t 5), none⟩,
⟨none, .store 1 (.t 19) (.t 18), none⟩] [4, 5])
(.seq
(.region none [
⟨some 20, .load (some 3) (.t 5), none⟩,
⟨none, .store 3 (.t 4) (.t 20), none⟩] [4])
.ret))))),
[.cell 4 (some 3)]⟩

theorem x147_ok : chkFunc Go.Proofs.Tryz.prog (fun _ => true) x147 147 = true := by decide +kernel

/-- peloton/pelotonref07.down -/
def x148 : XFunc := ⟨2,
(.seq
(.region none [
⟨some 2, .box (.t 0), none⟩] [1, 2])
(.block 0
(.loop [(1, none), (2, none)]
(.block 1
(.seq
(.region none [
⟨some 5, .mov (.t 1), none⟩,
⟨some 6, .bin .mul (.c (.int .i64 2)) (.t 5), none⟩,
⟨some 7, .bin .add (.t 6) (.c (.int .i64 1)), none⟩,
⟨some 4, .mov (.t 7), none⟩] [1, 2, 4])
(.seq
(.seq
(.region none [
⟨some 8, .mov (.t 4), none⟩,
⟨some 9, .fadr 3 (.t 2), none⟩,
⟨some 10, .load none (.t 9), none⟩,
⟨some 11, .len (.t 10), none⟩,
⟨some 12, .bin .geq (.t 8) (.t 11), none⟩] [1, 2, 4, 12])
(.cond (.t 12)
.ret
.skip))
(.seq
(.seq
(.region (some [0, 1, 0, 4, 12, 31, 63, 127, 255, 127, 639, 2047, 4095, 127, 8319, 127, 57471, 123007, 262143, 524287]) [
⟨some 13, .mov (.t 4), none⟩,
⟨some 14, .bin .add (.t 13) (.c (.int .i64 1)), none⟩,
⟨some 15, .fadr 3 (.t 2), none⟩,
⟨some 16, .load none (.t 15), none⟩,
⟨some 17, .len (.t 16), none⟩,
⟨some 18, .bin .lss (.t 14) (.t 17), none⟩,
⟨some 19, .mov (.t 18), none⟩,
⟨some 20, .fadr 3 (.t 2), (some (19, true))⟩,
⟨some 21, .load none (.t 20), (some (19, true))⟩,
⟨some 22, .mov (.t 4), (some (19, true))⟩,
⟨some 23, .bin .add (.t 22) (.c (.int .i64 1)), (some (19, true))⟩,
⟨some 24, .iadr 5 (.t 21) (.t 23), (some (19, true))⟩,
⟨some 25, .load (some 5) (.t 24), (some (19, true))⟩,
⟨some 26, .fadr 3 (.t 2), (some (19, true))⟩,
⟨some 27, .load none (.t 26), (some (19, true))⟩,
⟨some 28, .mov (.t 4), (some (19, true))⟩,
⟨some 29, .iadr 5 (.t 27) (.t 28), (some (19, true))⟩,
⟨some 30, .load (some 5) (.t 29), (some (19, true))⟩,
⟨some 31, .call .pur 177 [(.t 25), (.t 30)], (some (19, true))⟩,
⟨some 32, .pick (.t 19) (.t 31) (.c (.bool false)), none⟩] [1, 2, 4, 32])
(.cond (.t 32)
(.region none [
⟨some 33, .mov (.t 4), none⟩,
⟨some 34, .bin .add (.t 33) (.c (.int .i64 1)), none⟩,
⟨some 4, .mov (.t 34), none⟩] [1, 2, 4])
.skip))
(.seq
(.seq
(.region (some [0, 1, 0, 7, 15, 0, 32, 0, 224, 480, 1023, 2047]) [
⟨some 35, .fadr 3 (.t 2), none⟩,
⟨some 36, .load none (.t 35), none⟩,
⟨some 37, .mov (.t 4), none⟩,
⟨some 38, .iadr 5 (.t 36) (.t 37), none⟩,
⟨some 39, .load (some 5) (.t 38), none⟩,
⟨some 40, .fadr 3 (.t 2), none⟩,
⟨some 41, .load none (.t 40), none⟩,
⟨some 42, .mov (.t 1), none⟩,
⟨some 43, .iadr 5 (.t 41) (.t 42), none⟩,
⟨some 44, .load (some 5) (.t 43), none⟩,
⟨some 45, .call .pur 177 [(.t 39), (.t 44)], none⟩,
⟨some 46, .un .not (.t 45), none⟩] [1, 2, 4, 46])
(.cond (.t 46)
.ret
.skip))
(.seq
(.region none [
⟨some 47, .load (some 5) (.t 2), none⟩,
⟨some 48, .mov (.t 1), none⟩,
⟨some 49, .mov (.t 4), none⟩,
⟨some 50, .call .fp 146 [(.t 47), (.t 48), (.t 49)], none⟩] [2, 4])
(.region none [
⟨some 51, .mov (.t 4), none⟩,
⟨some 1, .mov (.t 51), none⟩] [1, 2])))))))))),
[]⟩

theorem x148_ok : chkFunc Go.Proofs.Tryz.prog (fun _ => true) x148 148 = true := by decide +kernel

/-- peloton/pelotonref07.up -/
def x149 : XFunc := ⟨2,
(.seq
(.region none [
⟨some 2, .box (.t 0), none⟩,
⟨some 4, .mov (.c (.int .i64 0)), none⟩] [1, 2])
(.seq
(.block 0
(.loop [(1, none), (2, none)]
(.seq
(.seq
(.region (some [0, 1, 3, 7, 15, 7, 63, 127, 7, 263, 7, 1031, 3079, 7943, 16135, 32767, 65535]) [
⟨some 5, .mov (.t 1), none⟩,
⟨some 6, .bin .gtr (.t 5) (.c (.int .i64 0)), none⟩,
⟨some 7, .mov (.t 6), none⟩,
⟨some 8, .fadr 3 (.t 2), (some (7, true))⟩,
⟨some 9, .load none (.t 8), (some (7, true))⟩,
⟨some 10, .mov (.t 1), (some (7, true))⟩,
⟨some 11, .iadr 5 (.t 9) (.t 10), (some (7, true))⟩,
⟨some 12, .load (some 5) (.t 11), (some (7, true))⟩,
⟨some 13, .fadr 3 (.t 2), (some (7, true))⟩,
⟨some 14, .load none (.t 13), (some (7, true))⟩,
⟨some 15, .mov (.t 1), (some (7, true))⟩,
⟨some 16, .bin .sub (.t 15) (.c (.int .i64 1)), (some (7, true))⟩,
⟨some 17, .bin .quo (.t 16) (.c (.int .i64 2)), (some (7, true))⟩,
⟨some 18, .iadr 5 (.t 14) (.t 17), (some (7, true))⟩,
⟨some 19, .load (some 5) (.t 18), (some (7, true))⟩,
⟨some 20, .call .pur 177 [(.t 12), (.t 19)], (some (7, true))⟩,
⟨some 21, .pick (.t 7) (.t 20) (.c (.bool false)), none⟩] [1, 2, 21])
(.cond (.t 21)
.skip
(.exit 0)))
(.block 1
(.seq
(.region none [
⟨some 22, .load (some 5) (.t 2), none⟩,
⟨some 23, .mov (.t 1), none⟩,
⟨some 24, .mov (.t 1), none⟩,
⟨some 25, .bin .sub (.t 24) (.c (.int .i64 1)), none⟩,
⟨some 26, .bin .quo (.t 25) (.c (.int .i64 2)), none⟩,
⟨some 27, .call .fp 146 [(.t 22), (.t 23), (.t 26)], none⟩] [1, 2])
(.region none [
⟨some 28, .mov (.t 1), none⟩,
⟨some 29, .bin .sub (.t 28) (.c (.int .i64 1)), none⟩,
⟨some 30, .bin .quo (.t 29) (.c (.int .i64 2)), none⟩,
⟨some 1, .mov (.t 30), none⟩] [1, 2]))))))
(.seq
(.region none [
⟨some 31, .mov (.t 1), none⟩,
⟨some 4, .mov (.t 31), none⟩] [4])
.ret))),
[.tmp 4]⟩

theorem x149_ok : chkFunc Go.Proofs.Tryz.prog (fun _ => true) x149 149 = true := by decide +kernel

/-- peloton/pelotonref02.Far -/
def x150 : XFunc := ⟨3,
(.seq
(.region none [
⟨some 3, .box (.t 0), none⟩,
⟨some 4, .box (.t 1), none⟩,
⟨some 5, .box (.t 2), none⟩,
⟨some 6, .mov (.c (.int .i64 0)), none⟩] [3, 4, 5])
(.seq
(.region (some [0, 1, 0, 4, 15, 0, 32, 127, 0, 256, 0, 1024, 3840, 0, 8192, 32767, 65535, 131071, 262143]) [
⟨some 7, .fadr 1 (.t 3), none⟩,
⟨some 8, .load none (.t 7), none⟩,
⟨some 9, .fadr 1 (.t 4), none⟩,
⟨some 10, .load none (.t 9), none⟩,
⟨some 11, .bin .sub (.t 8) (.t 10), none⟩,
⟨some 12, .fadr 1 (.t 5), none⟩,
⟨some 13, .load none (.t 12), none⟩,
⟨some 14, .call .pur 82 [(.t 11), (.t 13)], none⟩,
⟨some 15, .fadr 2 (.t 3), none⟩,
⟨some 16, .load none (.t 15), none⟩,
⟨some 17, .fadr 2 (.t 4), none⟩,
⟨some 18, .load none (.t 17), none⟩,
⟨some 19, .bin .sub (.t 16) (.t 18), none⟩,
⟨some 20, .fadr 0 (.t 5), none⟩,
⟨some 21, .load none (.t 20), none⟩,
⟨some 22, .call .pur 82 [(.t 19), (.t 21)], none⟩,
⟨some 23, .call .pur 194 [(.t 14), (.t 22)], none⟩,
⟨some 24, .call .pur 83 [(.t 23)], none⟩,
⟨some 6, .mov (.t 24), none⟩] [6])
.ret)),
[.tmp 6]⟩

theorem x150_ok : chkFunc Go.Proofs.Tryz.prog (fun _ => true) x150 150 = true := by decide +kernel

/-- peloton/course.Meet -/
def x155 : XFunc := ⟨2,
(.seq
(.region none [
⟨some 2, .box (.t 0), none⟩,
⟨some 3, .box (.t 1), none⟩,
⟨some 4, .alloc [.int .i64 0, .int .i64 0], none⟩,
⟨some 5, .mov (.c (.int .i64 0)), none⟩] [2, 3, 4])
(.seq
(.seq
(.region none [
⟨some 7, .load (some 3) (.t 2), none⟩,
⟨some 8, .load (some 3) (.t 3), none⟩,
⟨some 9, .build [.int .i64 0, .int .i64 0] [(1, 1, (.c (.int .i64 1)))], none⟩,
⟨some 10, .call .pur 191 [(.t 7), (.t 8), (.t 9)], none⟩,
⟨some 6, .mov (.t 10), none⟩] [2, 3, 4, 6])
(.seq
(.region none [
⟨some 11, .mov (.t 6), none⟩,
⟨some 12, .bin .neq (.t 11) (.c (.int .i64 0)), none⟩] [2, 3, 4, 6, 12])
(.cond (.t 12)
(.seq
(.region none [
⟨some 13, .build [.int .i64 0, .int .i64 0] [], none⟩,
⟨some 14, .mov (.t 6), none⟩,
⟨none, .store 2 (.t 4) (.t 13), none⟩,
⟨some 5, .mov (.t 14), none⟩] [4, 5])
.ret)
.skip)))
(.seq
(.seq
(.region none [
⟨some 15, .fadr 2 (.t 2), none⟩,
⟨some 16, .load none (.t 15), none⟩,
⟨some 17, .fadr 2 (.t 3), none⟩,
⟨some 18, .load none (.t 17), none⟩,
⟨some 19, .bin .eql (.t 16) (.t 18), none⟩] [2, 3, 4, 19])
(.cond (.t 19)
(.seq
(.region none [
⟨some 20, .build [.int .i64 0, .int .i64 0] [], none⟩,
⟨none, .store 2 (.t 4) (.t 20), none⟩,
⟨some 5, .mov (.c (.int .i64 6)), none⟩] [4, 5])
.ret)
.skip))
(.seq
(.region none [
⟨some 21, .fadr 1 (.t 2), none⟩,
⟨some 22, .load none (.t 21), none⟩,
⟨some 23, .fadr 1 (.t 3), none⟩,
⟨some 24, .load none (.t 23), none⟩,
⟨some 25, .bin .sub (.t 22) (.t 24), none⟩,
⟨some 26, .fadr 2 (.t 3), none⟩,
⟨some 27, .load none (.t 26), none⟩,
⟨some 28, .fadr 2 (.t 2), none⟩,
⟨some 29, .load none (.t 28), none⟩,
⟨some 30, .bin .sub (.t 27) (.t 29), none⟩,
⟨some 31, .call .pur 198 [(.t 25), (.t 30)], none⟩,
⟨some 32, .ext 0 (.t 31), none⟩,
⟨some 33, .ext 1 (.t 31), none⟩,
⟨none, .store 2 (.t 4) (.t 32), none⟩,
⟨some 5, .mov (.t 33), none⟩] [4, 5])
.ret)))),
[.cell 4 (some 2), .tmp 5]⟩

theorem x155_ok : chkFunc Go.Proofs.Tryz.prog (fun _ => true) x155 155 = true := by decide +kernel

/-- peloton/cert.valid -/
def x160 : XFunc := ⟨1,
(.seq
(.region none [
⟨some 1, .box (.t 0), none⟩,
⟨some 2, .mov (.c (.bool false)), none⟩] [1])
(.seq
(.region none [
⟨some 3, .fadr 0 (.t 1), none⟩,
⟨some 4, .load none (.t 3), none⟩,
⟨some 5, .fadr 1 (.t 1), none⟩,
⟨some 6, .load none (.t 5), none⟩,
⟨some 7, .mm false (.t 4) [(.t 6)], none⟩,
⟨some 8, .bin .geq (.t 7) (.c (.int .i64 0)), none⟩,
⟨some 9, .mov (.t 8), none⟩,
⟨some 10, .fadr 0 (.t 1), (some (9, true))⟩,
⟨some 11, .load none (.t 10), (some (9, true))⟩,
⟨some 12, .fadr 1 (.t 1), (some (9, true))⟩,
⟨some 13, .load none (.t 12), (some (9, true))⟩,
⟨some 14, .mm true (.t 11) [(.t 13)], (some (9, true))⟩,
⟨some 15, .bin .leq (.t 14) (.c (.int .i64 65535)), (some (9, true))⟩,
⟨some 16, .pick (.t 9) (.t 15) (.c (.bool false)), none⟩,
⟨some 17, .mov (.t 16), none⟩,
⟨some 18, .fadr 0 (.t 1), (some (17, true))⟩,
⟨some 19, .load none (.t 18), (some (17, true))⟩,
⟨some 20, .fadr 1 (.t 1), (some (17, true))⟩,
⟨some 21, .load none (.t 20), (some (17, true))⟩,
⟨some 22, .bin .neq (.t 19) (.t 21), (some (17, true))⟩,
⟨some 23, .pick (.t 17) (.t 22) (.c (.bool false)), none⟩,
⟨some 2, .mov (.t 23), none⟩] [2])
.ret)),
[.tmp 2]⟩

theorem x160_ok : chkFunc Go.Proofs.Tryz.prog (fun _ => true) x160 160 = true := by decide +kernel

/-- peloton/slot.Check -/
def x161 : XFunc := ⟨1,
(.seq
(.region none [
⟨some 1, .box (.t 0), none⟩,
⟨some 2, .mov (.c (.int .i64 0)), none⟩] [1])
(.seq
(.region none [
⟨some 8, .fadr 0 (.t 1), none⟩,
⟨some 9, .load none (.t 8), none⟩,
⟨some 10, .len (.t 9), none⟩,
⟨some 3, .alloc [.int .i64 0], none⟩,
⟨none, .store 1 (.t 3) (.t 10), none⟩] [1, 3])
(.seq
(.seq
(.region none [
⟨some 11, .load none (.t 3), none⟩,
⟨some 12, .bin .lss (.t 11) (.c (.int .i64 1)), none⟩,
⟨some 13, .mov (.t 12), none⟩,
⟨some 14, .load none (.t 3), (some (13, false))⟩,
⟨some 15, .bin .gtr (.t 14) (.c (.int .i64 200)), (some (13, false))⟩,
⟨some 16, .pick (.t 13) (.c (.bool true)) (.t 15), none⟩,
⟨some 17, .mov (.t 16), none⟩,
⟨some 18, .fadr 1 (.t 1), (some (17, false))⟩,
⟨some 19, .load none (.t 18), (some (17, false))⟩,
⟨some 20, .len (.t 19), (some (17, false))⟩,
⟨some 21, .load none (.t 3), (some (17, false))⟩,
⟨some 22, .bin .neq (.t 20) (.t 21), (some (17, false))⟩,
⟨some 23, .pick (.t 17) (.c (.bool true)) (.t 22), none⟩] [1, 3, 23])
(.cond (.t 23)
(.seq
(.region none [
⟨some 2, .mov (.c (.int .i64 8)), none⟩] [2])
.ret)
.skip))
(.seq
(.region none [
⟨some 24, .fadr 1 (.t 1), none⟩,
⟨some 25, .load none (.t 24), none⟩,
⟨some 26, .call .pur 116 [(.t 25)], none⟩,
⟨some 4, .alloc [.sl 1 true []], none⟩,
⟨none, .store 1 (.t 4) (.t 26), none⟩] [1, 3, 4])
(.seq
(.region none [
⟨some 27, .fadr 2 (.t 1), none⟩,
⟨some 28, .load none (.t 27), none⟩,
⟨some 29, .mkf 203 [] [(.t 3), (.t 4)], none⟩,
⟨some 30, .call .shr 202 [(.t 28), (.t 29)], none⟩,
⟨some 5, .mov (.t 30), none⟩] [1, 4, 5])
(.seq
(.seq
(.region none [
⟨some 31, .mov (.t 5), none⟩,
⟨some 32, .mov (.t 31), none⟩,
⟨some 33, .load none (.t 4), (some (32, false))⟩,
⟨some 34, .call .pur 204 [(.t 33), (.c (.bool false))], (some (32, false))⟩,
⟨some 35, .pick (.t 32) (.c (.bool true)) (.t 34), none⟩] [1, 35])
(.cond (.t 35)
(.seq
(.region none [
⟨some 2, .mov (.c (.int .i64 8)), none⟩] [2])
.ret)
.skip))
(.seq
(.seq
(.region none [
⟨some 36, .fadr 0 (.t 1), none⟩,
⟨some 37, .load none (.t 36), none⟩,
⟨some 38, .len (.t 37), none⟩,
⟨some 39, .mov (.c (.int .i64 0)), none⟩] [1, 37, 38, 39])
(.block 0
(.loop [(1, none), (37, none), (38, none), (39, none)]
(.seq
(.region none [
⟨some 40, .bin .lss (.t 39) (.t 38), none⟩] [1, 37, 38, 39, 40])
(.seq
(.cond (.t 40)
.skip
(.exit 0))
(.seq
(.block 1
(.seq
(.region none [
⟨some 41, .mov (.t 39), none⟩,
⟨some 42, .iadr 1 (.t 37) (.t 39), none⟩,
⟨some 43, .load none (.t 42), none⟩,
⟨some 6, .mov (.t 41), none⟩,
⟨some 7, .mov (.t 43), none⟩] [1, 6, 7, 37, 38, 39])
(.seq
(.region none [
⟨some 44, .mov (.t 7), none⟩,
⟨some 45, .bin .lss (.t 44) (.c (.int .i64 0)), none⟩,
⟨some 46, .mov (.t 45), none⟩,
⟨some 47, .mov (.t 7), (some (46, false))⟩,
⟨some 48, .bin .gtr (.t 47) (.c (.int .i64 1000000)), (some (46, false))⟩,
⟨some 49, .pick (.t 46) (.c (.bool true)) (.t 48), none⟩,
⟨some 50, .mov (.t 49), none⟩,
⟨some 51, .mov (.t 7), (some (50, false))⟩,
⟨some 52, .bin .eql (.t 51) (.c (.int .i64 0)), (some (50, false))⟩,
⟨some 53, .mov (.t 52), (some (50, false))⟩,
⟨some 54, .fadr 1 (.t 1), (some (53, true))⟩,
⟨some 55, .load none (.t 54), (some (53, true))⟩,
⟨some 56, .mov (.t 6), (some (53, true))⟩,
⟨some 57, .iadr 1 (.t 55) (.t 56), (some (53, true))⟩,
⟨some 58, .load none (.t 57), (some (53, true))⟩,
⟨some 59, .pick (.t 53) (.t 58) (.c (.bool false)), (some (50, false))⟩,
⟨some 60, .pick (.t 50) (.c (.bool true)) (.t 59), none⟩] [1, 37, 38, 39, 60])
(.cond (.t 60)
(.seq
(.region none [
⟨some 2, .mov (.c (.int .i64 8)), none⟩] [2])
.ret)
.skip))))
(.region none [
⟨some 61, .bin .add (.t 39) (.c (.int .i64 1)), none⟩,
⟨some 39, .mov (.t 61), none⟩] [1, 37, 38, 39])))))))
(.seq
(.region none [
⟨some 2, .mov (.c (.int .i64 0)), none⟩] [2])
.ret)))))))),
[.tmp 2]⟩

theorem x161_ok : chkFunc Go.Proofs.Tryz.prog (fun _ => true) x161 161 = true := by decide +kernel

/-- peloton/agenda.compare -/
def x162 : XFunc := ⟨2,
(.seq
(.region none [
⟨some 2, .box (.t 0), none⟩,
⟨some 3, .box (.t 1), none⟩,
⟨some 4, .mov (.c (.int .i64 0)), none⟩] [2, 3])
(.seq
(.region none [
⟨some 8, .fadr 0 (.t 2), none⟩,
⟨some 9, .load (some 2) (.t 8), none⟩,
⟨some 10, .fadr 0 (.t 3), none⟩,
⟨some 11, .load (some 2) (.t 10), none⟩,
⟨some 12, .call .pur 66 [(.t 9), (.t 11)], none⟩,
⟨some 7, .mov (.t 12), none⟩,
⟨some 13, .ext 0 (.t 7), none⟩,
⟨some 14, .ext 1 (.t 7), none⟩,
⟨some 5, .mov (.t 13), none⟩,
⟨some 6, .mov (.t 14), none⟩] [2, 3, 5])
(.seq
(.region none [
⟨some 15, .mov (.t 5), none⟩,
⟨some 16, .fadr 2 (.t 2), none⟩,
⟨some 17, .load none (.t 16), none⟩,
⟨some 18, .fadr 2 (.t 3), none⟩,
⟨some 19, .load none (.t 18), none⟩,
⟨some 20, .call .pur 201 [(.t 17), (.t 19)], none⟩,
⟨some 21, .mkrow 1 2 [.int .i64 0] [(0, (.t 15)), (1, (.t 20))], none⟩,
⟨some 22, .call .pur 200 [(.t 21)], none⟩,
⟨some 4, .mov (.t 22), none⟩] [4])
.ret))),
[.tmp 4]⟩

theorem x162_ok : chkFunc Go.Proofs.Tryz.prog (fun _ => true) x162 162 = true := by decide +kernel

/-- peloton/course.Fails -/
def x163 : XFunc := ⟨3,
(.seq
(.region none [
⟨some 3, .box (.t 0), none⟩,
⟨some 4, .box (.t 1), none⟩,
⟨some 5, .box (.t 2), none⟩,
⟨some 6, .alloc [.int .i64 0, .int .i64 0], none⟩,
⟨some 7, .mov (.c (.bool false)), none⟩,
⟨some 8, .mov (.c (.int .i64 0)), none⟩] [3, 4, 5, 6])
(.seq
(.seq
(.region none [
⟨some 12, .load (some 3) (.t 3), none⟩,
⟨some 13, .load (some 3) (.t 4), none⟩,
⟨some 14, .load (some 2) (.t 5), none⟩,
⟨some 15, .call .pur 191 [(.t 12), (.t 13), (.t 14)], none⟩,
⟨some 9, .mov (.t 15), none⟩] [3, 4, 5, 6, 9])
(.seq
(.region none [
⟨some 16, .mov (.t 9), none⟩,
⟨some 17, .bin .neq (.t 16) (.c (.int .i64 0)), none⟩] [3, 4, 5, 6, 9, 17])
(.cond (.t 17)
(.seq
(.region none [
⟨some 18, .build [.int .i64 0, .int .i64 0] [], none⟩,
⟨some 19, .mov (.t 9), none⟩,
⟨none, .store 2 (.t 6) (.t 18), none⟩,
⟨some 7, .mov (.c (.bool false)), none⟩,
⟨some 8, .mov (.t 19), none⟩] [6, 7, 8])
.ret)
.skip)))
(.seq
(.seq
(.region none [
⟨some 20, .load (some 3) (.t 4), none⟩,
⟨some 21, .load (some 3) (.t 3), none⟩,
⟨some 22, .load (some 2) (.t 5), none⟩,
⟨some 23, .call .pur 192 [(.t 20), (.t 21), (.t 22)], none⟩,
⟨some 24, .bin .gtr (.t 23) (.c (.int .i64 0)), none⟩] [3, 4, 5, 6, 24])
(.cond (.t 24)
(.seq
(.region none [
⟨some 25, .load (some 2) (.t 5), none⟩,
⟨none, .store 2 (.t 6) (.t 25), none⟩,
⟨some 7, .mov (.c (.bool true)), none⟩,
⟨some 8, .mov (.c (.int .i64 0)), none⟩] [6, 7, 8])
.ret)
.skip))
(.seq
(.seq
(.region none [
⟨some 26, .fadr 2 (.t 4), none⟩,
⟨some 27, .load none (.t 26), none⟩,
⟨some 28, .fadr 2 (.t 3), none⟩,
⟨some 29, .load none (.t 28), none⟩,
⟨some 30, .bin .leq (.t 27) (.t 29), none⟩] [3, 4, 6, 30])
(.cond (.t 30)
(.seq
(.region none [
⟨some 31, .build [.int .i64 0, .int .i64 0] [], none⟩,
⟨none, .store 2 (.t 6) (.t 31), none⟩,
⟨some 7, .mov (.c (.bool false)), none⟩,
⟨some 8, .mov (.c (.int .i64 0)), none⟩] [6, 7, 8])
.ret)
.skip))
(.seq
(.region none [
⟨some 33, .load (some 3) (.t 3), none⟩,
⟨some 34, .load (some 3) (.t 4), none⟩,
⟨some 35, .call .pur 155 [(.t 33), (.t 34)], none⟩,
⟨some 32, .mov (.t 35), none⟩,
⟨some 36, .ext 0 (.t 32), none⟩,
⟨some 37, .ext 1 (.t 32), none⟩,
⟨some 10, .alloc [.int .i64 0, .int .i64 0], none⟩,
⟨none, .store 2 (.t 10) (.t 36), none⟩,
⟨some 11, .mov (.t 37), none⟩] [6, 10, 11])
(.seq
(.region none [
⟨some 38, .load (some 2) (.t 10), none⟩,
⟨some 39, .mov (.t 11), none⟩,
⟨some 40, .bin .eql (.t 39) (.c (.int .i64 0)), none⟩,
⟨some 41, .mov (.t 11), none⟩,
⟨none, .store 2 (.t 6) (.t 38), none⟩,
⟨some 7, .mov (.t 40), none⟩,
⟨some 8, .mov (.t 41), none⟩] [6, 7, 8])
.ret)))))),
[.cell 6 (some 2), .tmp 7, .tmp 8]⟩

theorem x163_ok : chkFunc Go.Proofs.Tryz.prog (fun _ => true) x163 163 = true := by decide +kernel

/-- peloton/clock.point -/
def x164 : XFunc := ⟨2,
(.seq
(.region none [
⟨some 2, .box (.t 0), none⟩,
⟨some 4, .alloc [.int .i64 0, .int .i64 0, .int .i64 0], none⟩] [1, 2, 4])
(.seq
(.region none [
⟨some 8, .fadr 0 (.t 2), none⟩,
⟨some 9, .load none (.t 8), none⟩,
⟨some 10, .mov (.t 1), none⟩,
⟨some 11, .call .pur 205 [(.t 9), (.t 10), (.c (.clo 206 [] []))], none⟩,
⟨some 7, .mov (.t 11), none⟩,
⟨some 12, .ext 0 (.t 7), none⟩,
⟨some 13, .ext 1 (.t 7), none⟩,
⟨some 5, .mov (.t 12), none⟩,
⟨some 6, .mov (.t 13), none⟩] [2, 4, 5, 6])
(.seq
(.seq
(.region none [
⟨some 14, .mov (.t 6), none⟩,
⟨some 15, .un .not (.t 14), none⟩] [2, 4, 5, 15])
(.cond (.t 15)
(.seq
(.region none [
⟨some 16, .build [.int .i64 0, .int .i64 0, .int .i64 0] [(0, 1, (.c (.int .i64 (-1))))], none⟩,
⟨none, .store 3 (.t 4) (.t 16), none⟩] [4])
.ret)
.skip))
(.seq
(.region none [
⟨some 17, .fadr 0 (.t 2), none⟩,
⟨some 18, .load none (.t 17), none⟩,
⟨some 19, .mov (.t 5), none⟩,
⟨some 20, .iadr 3 (.t 18) (.t 19), none⟩,
⟨some 21, .load (some 3) (.t 20), none⟩,
⟨none, .store 3 (.t 4) (.t 21), none⟩] [4])
.ret)))),
[.cell 4 (some 3)]⟩

theorem x164_ok : chkFunc Go.Proofs.Tryz.prog (fun _ => true) x164 164 = true := by decide +kernel

/-- peloton/course.Check$1 -/
def x165 : XFunc := ⟨1,
(.seq
(.region none [
⟨some 2, .mov (.c (.bool false)), none⟩] [0])
(.seq
(.region none [
⟨some 3, .mov (.t 0), none⟩,
⟨some 4, .bin .lss (.t 3) (.c (.int .i64 (-1048576))), none⟩,
⟨some 5, .mov (.t 4), none⟩,
⟨some 6, .mov (.t 0), (some (5, false))⟩,
⟨some 7, .bin .gtr (.t 6) (.c (.int .i64 1048576)), (some (5, false))⟩,
⟨some 8, .pick (.t 5) (.c (.bool true)) (.t 7), none⟩,
⟨some 2, .mov (.t 8), none⟩] [2])
.ret)),
[.tmp 2]⟩

theorem x165_ok : chkFunc Go.Proofs.Tryz.prog (fun _ => true) x165 165 = true := by decide +kernel

/-- peloton/field.find -/
def x166 : XFunc := ⟨2,
(.seq
(.region none [
⟨some 2, .box (.t 0), none⟩,
⟨some 4, .mov (.c (.int .i64 0)), none⟩,
⟨some 5, .mov (.c (.bool false)), none⟩] [1, 2])
(.seq
(.region none [
⟨some 6, .fadr 0 (.t 2), none⟩,
⟨some 7, .load none (.t 6), none⟩,
⟨some 8, .mov (.t 1), none⟩,
⟨some 9, .call .pur 205 [(.t 7), (.t 8), (.c (.clo 207 [] []))], none⟩,
⟨some 10, .ext 0 (.t 9), none⟩,
⟨some 11, .ext 1 (.t 9), none⟩,
⟨some 4, .mov (.t 10), none⟩,
⟨some 5, .mov (.t 11), none⟩] [4, 5])
.ret)),
[.tmp 4, .tmp 5]⟩

theorem x166_ok : chkFunc Go.Proofs.Tryz.prog (fun _ => true) x166 166 = true := by decide +kernel

/-- peloton/clock.drop -/
def x167 : XFunc := ⟨2,
(.seq
(.region none [
⟨some 2, .box (.t 0), none⟩,
⟨some 4, .alloc [.int .i64 0, .int .i64 0, .sl 3 true [], .int .i64 0, .sl 3 true [], .sl 1 true [], .sl 1 true [], .sl 1 true [], .sl 5 true [], .sl 1 true [], .sl 3 true []], none⟩,
⟨some 5, .alloc [.int .i64 0, .int .i64 0], none⟩,
⟨some 6, .mov (.c (.int .i64 0)), none⟩] [1, 2, 4, 5])
(.seq
(.region none [
⟨some 17, .fadr 3 (.t 2), none⟩,
⟨some 18, .load (some 2) (.t 17), none⟩,
⟨some 19, .mov (.t 1), none⟩,
⟨some 20, .call .pur 208 [(.t 18), (.t 19)], none⟩,
⟨some 16, .mov (.t 20), none⟩,
⟨some 21, .ext 0 (.t 16), none⟩,
⟨some 22, .ext 1 (.t 16), none⟩,
⟨some 23, .ext 2 (.t 16), none⟩,
⟨some 7, .alloc [.int .i64 0, .sl 3 true []], none⟩,
⟨some 8, .alloc [.int .i64 0, .int .i64 0], none⟩,
⟨none, .store 2 (.t 7) (.t 21), none⟩,
⟨none, .store 2 (.t 8) (.t 22), none⟩,
⟨some 9, .mov (.t 23), none⟩] [1, 2, 4, 5, 7, 8, 9])
(.seq
(.seq
(.region none [
⟨some 24, .mov (.t 9), none⟩,
⟨some 25, .bin .neq (.t 24) (.c (.int .i64 0)), none⟩] [1, 2, 4, 5, 7, 8, 9, 25])
(.cond (.t 25)
(.seq
(.region (some [0, 0, 0, 1, 11, 31]) [
⟨some 26, .build [.int .i64 0, .int .i64 0, .sl 3 true [], .int .i64 0, .sl 3 true [], .sl 1 true [], .sl 1 true [], .sl 1 true [], .sl 5 true [], .sl 1 true [], .sl 3 true []] [], none⟩,
⟨some 27, .load (some 2) (.t 8), none⟩,
⟨some 28, .mov (.t 9), none⟩,
⟨none, .store 11 (.t 4) (.t 26), none⟩,
⟨none, .store 2 (.t 5) (.t 27), none⟩,
⟨some 6, .mov (.t 28), none⟩] [4, 5, 6])
.ret)
.skip))
(.seq
(.region none [
⟨some 29, .load (some 11) (.t 2), none⟩,
⟨some 30, .call .own 137 [(.t 29)], none⟩,
⟨some 10, .alloc [.int .i64 0, .int .i64 0, .sl 3 true [], .int .i64 0, .sl 3 true [], .sl 1 true [], .sl 1 true [], .sl 1 true [], .sl 5 true [], .sl 1 true [], .sl 3 true []], none⟩,
⟨none, .store 11 (.t 10) (.t 30), none⟩] [1, 2, 4, 5, 7, 8, 10])
(.seq
(.region none [
⟨some 31, .load (some 2) (.t 7), none⟩,
⟨some 32, .fadr 3 (.t 10), none⟩,
⟨none, .store 2 (.t 32) (.t 31), none⟩] [1, 2, 4, 5, 8, 10])
(.seq
(.seq
(.region none [
⟨some 34, .fadr 10 (.t 2), none⟩,
⟨some 35, .load none (.t 34), none⟩,
⟨some 36, .mov (.t 1), none⟩,
⟨some 37, .call .pur 168 [(.t 35), (.t 36)], none⟩,
⟨some 33, .mov (.t 37), none⟩,
⟨some 38, .ext 0 (.t 33), none⟩,
⟨some 39, .ext 1 (.t 33), none⟩,
⟨some 11, .mov (.t 38), none⟩,
⟨some 12, .mov (.t 39), none⟩] [2, 4, 5, 8, 10, 11, 12])
(.seq
(.region none [
⟨some 40, .mov (.t 12), none⟩] [2, 4, 5, 8, 10, 11, 40])
(.cond (.t 40)
(.seq
(.region (some [0, 1, 0, 4, 0, 28, 60, 124, 255, 511, 1023, 1023, 1023, 0, 0, 26623, 61439, 131071]) [
⟨some 42, .fadr 5 (.t 2), none⟩,
⟨some 43, .load (some 5) (.t 42), none⟩,
⟨some 44, .fadr 10 (.t 2), none⟩,
⟨some 45, .load none (.t 44), none⟩,
⟨some 46, .mov (.t 11), none⟩,
⟨some 47, .iadr 3 (.t 45) (.t 46), none⟩,
⟨some 48, .fadr 1 (.t 47), none⟩,
⟨some 49, .load (some 2) (.t 48), none⟩,
⟨some 50, .call .pur 171 [(.t 43), (.t 49)], none⟩,
⟨some 41, .mov (.t 50), none⟩,
⟨some 51, .ext 0 (.t 41), none⟩,
⟨some 52, .ext 1 (.t 41), none⟩,
⟨some 53, .ext 2 (.t 41), none⟩,
⟨some 13, .alloc [.sl 1 true [], .sl 1 true [], .sl 1 true [], .sl 5 true [], .sl 1 true []], none⟩,
⟨some 14, .alloc [.int .i64 0, .int .i64 0, .int .i64 0, .int .i64 0, .int .i64 0], none⟩,
⟨none, .store 5 (.t 13) (.t 51), none⟩,
⟨none, .store 5 (.t 14) (.t 52), none⟩,
⟨some 15, .mov (.t 53), none⟩] [4, 5, 8, 10, 11, 13, 15])
(.seq
(.seq
(.region none [
⟨some 54, .mov (.t 15), none⟩,
⟨some 55, .bin .neq (.t 54) (.c (.int .i64 0)), none⟩] [4, 5, 8, 10, 11, 13, 15, 55])
(.cond (.t 55)
(.seq
(.region (some [0, 0, 0, 1, 11, 31]) [
⟨some 56, .build [.int .i64 0, .int .i64 0, .sl 3 true [], .int .i64 0, .sl 3 true [], .sl 1 true [], .sl 1 true [], .sl 1 true [], .sl 5 true [], .sl 1 true [], .sl 3 true []] [], none⟩,
⟨some 57, .load (some 2) (.t 8), none⟩,
⟨some 58, .mov (.t 15), none⟩,
⟨none, .store 11 (.t 4) (.t 56), none⟩,
⟨none, .store 2 (.t 5) (.t 57), none⟩,
⟨some 6, .mov (.t 58), none⟩] [4, 5, 6])
.ret)
.skip))
(.region (some [0, 0, 2, 0, 0, 16, 62, 7, 255, 511, 1023]) [
⟨some 59, .load (some 5) (.t 13), none⟩,
⟨some 60, .fadr 10 (.t 10), none⟩,
⟨some 61, .load none (.t 60), none⟩,
⟨some 62, .mov (.t 11), none⟩,
⟨some 63, .mov (.t 11), none⟩,
⟨some 64, .bin .add (.t 63) (.c (.int .i64 1)), none⟩,
⟨some 65, .call .fp 209 [(.t 61), (.t 62), (.t 64)], none⟩,
⟨some 66, .fadr 5 (.t 10), none⟩,
⟨none, .store 5 (.t 66) (.t 59), none⟩,
⟨some 67, .fadr 10 (.t 10), none⟩,
⟨none, .store 1 (.t 67) (.t 65), none⟩] [4, 5, 8, 10])))
.skip)))
(.seq
(.region (some [0, 0, 1, 7, 15]) [
⟨some 68, .load (some 11) (.t 10), none⟩,
⟨some 69, .load (some 2) (.t 8), none⟩,
⟨none, .store 11 (.t 4) (.t 68), none⟩,
⟨none, .store 2 (.t 5) (.t 69), none⟩,
⟨some 6, .mov (.c (.int .i64 0)), none⟩] [4, 5, 6])
.ret))))))),
[.cell 4 (some 11), .cell 5 (some 2), .tmp 6]⟩

theorem x167_ok : chkFunc Go.Proofs.Tryz.prog (fun _ => true) x167 167 = true := by decide +kernel

/-- peloton/clock.place -/
def x168 : XFunc := ⟨2,
(.seq
(.region none [
⟨some 4, .mov (.c (.int .i64 0)), none⟩,
⟨some 5, .mov (.c (.bool false)), none⟩] [0, 1])
(.seq
(.region none [
⟨some 6, .mov (.t 0), none⟩,
⟨some 7, .mov (.t 1), none⟩,
⟨some 8, .call .pur 210 [(.t 6), (.t 7), (.c (.clo 211 [] []))], none⟩,
⟨some 9, .ext 0 (.t 8), none⟩,
⟨some 10, .ext 1 (.t 8), none⟩,
⟨some 4, .mov (.t 9), none⟩,
⟨some 5, .mov (.t 10), none⟩] [4, 5])
.ret)),
[.tmp 4, .tmp 5]⟩

theorem x168_ok : chkFunc Go.Proofs.Tryz.prog (fun _ => true) x168 168 = true := by decide +kernel

/-- peloton/agenda.Rekey -/
def x169 : XFunc := ⟨3,
(.seq
(.region none [
⟨some 3, .box (.t 0), none⟩,
⟨some 4, .box (.t 1), none⟩,
⟨some 5, .box (.t 2), none⟩,
⟨some 6, .alloc [.sl 1 true [], .sl 1 true [], .sl 1 true [], .sl 5 true [], .sl 1 true []], none⟩,
⟨some 7, .mov (.c (.int .i64 0)), none⟩] [3, 4, 5, 6])
(.seq
(.seq
(.region (some [0, 1, 0, 7, 15, 31]) [
⟨some 13, .load (some 5) (.t 3), none⟩,
⟨some 14, .call .pur 101 [(.t 13)], none⟩,
⟨some 15, .load (some 2) (.t 5), none⟩,
⟨some 16, .call .pur 65 [(.t 15)], none⟩,
⟨some 17, .mm true (.t 14) [(.t 16)], none⟩,
⟨some 8, .mov (.t 17), none⟩] [3, 4, 5, 6, 8])
(.seq
(.region none [
⟨some 18, .mov (.t 8), none⟩,
⟨some 19, .bin .neq (.t 18) (.c (.int .i64 0)), none⟩] [3, 4, 5, 6, 8, 19])
(.cond (.t 19)
(.seq
(.region none [
⟨some 20, .build [.sl 1 true [], .sl 1 true [], .sl 1 true [], .sl 5 true [], .sl 1 true []] [], none⟩,
⟨some 21, .mov (.t 8), none⟩,
⟨none, .store 5 (.t 6) (.t 20), none⟩,
⟨some 7, .mov (.t 21), none⟩] [6, 7])
.ret)
.skip)))
(.seq
(.region none [
⟨some 23, .load (some 5) (.t 3), none⟩,
⟨some 24, .load (some 2) (.t 4), none⟩,
⟨some 25, .call .pur 212 [(.t 23), (.t 24)], none⟩,
⟨some 22, .mov (.t 25), none⟩,
⟨some 26, .ext 0 (.t 22), none⟩,
⟨some 27, .ext 1 (.t 22), none⟩,
⟨some 9, .mov (.t 26), none⟩,
⟨some 10, .mov (.t 27), none⟩] [3, 5, 6, 9, 10])
(.seq
(.seq
(.region none [
⟨some 28, .mov (.t 10), none⟩,
⟨some 29, .bin .neq (.t 28) (.c (.int .i64 0)), none⟩] [3, 5, 6, 9, 10, 29])
(.cond (.t 29)
(.seq
(.region none [
⟨some 30, .build [.sl 1 true [], .sl 1 true [], .sl 1 true [], .sl 5 true [], .sl 1 true []] [], none⟩,
⟨some 31, .mov (.t 10), none⟩,
⟨none, .store 5 (.t 6) (.t 30), none⟩,
⟨some 7, .mov (.t 31), none⟩] [6, 7])
.ret)
.skip))
(.seq
(.region none [
⟨some 32, .load (some 5) (.t 3), none⟩,
⟨some 33, .call .shr 213 [(.t 32)], none⟩,
⟨some 11, .alloc [.sl 1 true [], .sl 1 true [], .sl 1 true [], .sl 5 true [], .sl 1 true []], none⟩,
⟨none, .store 5 (.t 11) (.t 33), none⟩] [5, 6, 9, 11])
(.seq
(.region none [
⟨some 34, .fadr 3 (.t 11), none⟩,
⟨some 35, .load none (.t 34), none⟩,
⟨some 36, .mov (.t 9), none⟩,
⟨some 37, .iadr 5 (.t 35) (.t 36), none⟩,
⟨some 38, .load (some 5) (.t 37), none⟩,
⟨some 12, .alloc [.int .i64 0, .int .i64 0, .int .i64 0, .int .i64 0, .int .i64 0], none⟩,
⟨none, .store 5 (.t 12) (.t 38), none⟩] [5, 6, 9, 11, 12])
(.seq
(.region none [
⟨some 39, .load (some 2) (.t 5), none⟩,
⟨some 40, .fadr 0 (.t 12), none⟩,
⟨none, .store 2 (.t 40) (.t 39), none⟩] [6, 9, 11, 12])
(.seq
(.region none [
⟨some 41, .load (some 5) (.t 11), none⟩,
⟨some 42, .mov (.t 9), none⟩,
⟨some 43, .load (some 5) (.t 12), none⟩,
⟨some 44, .call .fp 214 [(.t 41), (.t 42), (.t 43)], none⟩] [6, 11])
(.seq
(.region none [
⟨some 45, .load (some 5) (.t 11), none⟩,
⟨none, .store 5 (.t 6) (.t 45), none⟩,
⟨some 7, .mov (.c (.int .i64 0)), none⟩] [6, 7])
.ret))))))))),
[.cell 6 (some 5), .tmp 7]⟩

theorem x169_ok : chkFunc Go.Proofs.Tryz.prog (fun _ => true) x169 169 = true := by decide +kernel

/-- peloton/agenda.Push -/
def x170 : XFunc := ⟨3,
(.seq
(.region none [
⟨some 3, .box (.t 0), none⟩,
⟨some 4, .box (.t 1), none⟩,
⟨some 5, .box (.t 2), none⟩,
⟨some 6, .alloc [.sl 1 true [], .sl 1 true [], .sl 1 true [], .sl 5 true [], .sl 1 true []], none⟩,
⟨some 7, .alloc [.int .i64 0, .int .i64 0], none⟩,
⟨some 8, .mov (.c (.int .i64 0)), none⟩] [3, 4, 5, 6, 7])
(.seq
(.seq
(.region (some [0, 1, 0, 7, 15, 31]) [
⟨some 15, .load (some 5) (.t 3), none⟩,
⟨some 16, .call .pur 101 [(.t 15)], none⟩,
⟨some 17, .load (some 2) (.t 4), none⟩,
⟨some 18, .call .pur 65 [(.t 17)], none⟩,
⟨some 19, .mm true (.t 16) [(.t 18)], none⟩,
⟨some 9, .mov (.t 19), none⟩] [3, 4, 5, 6, 7, 9])
(.seq
(.region none [
⟨some 20, .mov (.t 9), none⟩,
⟨some 21, .bin .neq (.t 20) (.c (.int .i64 0)), none⟩] [3, 4, 5, 6, 7, 9, 21])
(.cond (.t 21)
(.seq
(.region none [
⟨some 22, .build [.sl 1 true [], .sl 1 true [], .sl 1 true [], .sl 5 true [], .sl 1 true []] [], none⟩,
⟨some 23, .build [.int .i64 0, .int .i64 0] [], none⟩,
⟨some 24, .mov (.t 9), none⟩,
⟨none, .store 5 (.t 6) (.t 22), none⟩,
⟨none, .store 2 (.t 7) (.t 23), none⟩,
⟨some 8, .mov (.t 24), none⟩] [6, 7, 8])
.ret)
.skip)))
(.seq
(.seq
(.region none [
⟨some 25, .load none (.t 5), none⟩,
⟨some 26, .bin .lss (.t 25) (.c (.int .i64 0)), none⟩,
⟨some 27, .mov (.t 26), none⟩,
⟨some 28, .load none (.t 5), (some (27, false))⟩,
⟨some 29, .bin .gtr (.t 28) (.c (.int .i64 1000000)), (some (27, false))⟩,
⟨some 30, .pick (.t 27) (.c (.bool true)) (.t 29), none⟩] [3, 4, 5, 6, 7, 30])
(.cond (.t 30)
(.seq
(.region none [
⟨some 31, .build [.sl 1 true [], .sl 1 true [], .sl 1 true [], .sl 5 true [], .sl 1 true []] [], none⟩,
⟨some 32, .build [.int .i64 0, .int .i64 0] [], none⟩,
⟨none, .store 5 (.t 6) (.t 31), none⟩,
⟨none, .store 2 (.t 7) (.t 32), none⟩,
⟨some 8, .mov (.c (.int .i64 2)), none⟩] [6, 7, 8])
.ret)
.skip))
(.seq
(.seq
(.region none [
⟨some 33, .fadr 3 (.t 3), none⟩,
⟨some 34, .load none (.t 33), none⟩,
⟨some 35, .mkf 216 [] [(.t 5)], none⟩,
⟨some 36, .call .pur 215 [(.t 34), (.t 35)], none⟩] [3, 4, 5, 6, 7, 36])
(.cond (.t 36)
(.seq
(.region none [
⟨some 37, .build [.sl 1 true [], .sl 1 true [], .sl 1 true [], .sl 5 true [], .sl 1 true []] [], none⟩,
⟨some 38, .build [.int .i64 0, .int .i64 0] [], none⟩,
⟨none, .store 5 (.t 6) (.t 37), none⟩,
⟨none, .store 2 (.t 7) (.t 38), none⟩,
⟨some 8, .mov (.c (.int .i64 14)), none⟩] [6, 7, 8])
.ret)
.skip))
(.seq
(.region none [
⟨some 40, .fadr 0 (.t 3), none⟩,
⟨some 41, .load (some 3) (.t 40), none⟩,
⟨some 42, .call .pur 217 [(.t 41)], none⟩,
⟨some 39, .mov (.t 42), none⟩,
⟨some 43, .ext 0 (.t 39), none⟩,
⟨some 44, .ext 1 (.t 39), none⟩,
⟨some 45, .ext 2 (.t 39), none⟩,
⟨some 10, .alloc [.sl 1 true [], .sl 1 true [], .sl 1 true []], none⟩,
⟨some 11, .alloc [.int .i64 0, .int .i64 0], none⟩,
⟨none, .store 3 (.t 10) (.t 43), none⟩,
⟨none, .store 2 (.t 11) (.t 44), none⟩,
⟨some 12, .mov (.t 45), none⟩] [3, 4, 5, 6, 7, 10, 11, 12])
(.seq
(.seq
(.region none [
⟨some 46, .mov (.t 12), none⟩,
⟨some 47, .bin .neq (.t 46) (.c (.int .i64 0)), none⟩] [3, 4, 5, 6, 7, 10, 11, 12, 47])
(.cond (.t 47)
(.seq
(.region none [
⟨some 48, .build [.sl 1 true [], .sl 1 true [], .sl 1 true [], .sl 5 true [], .sl 1 true []] [], none⟩,
⟨some 49, .build [.int .i64 0, .int .i64 0] [], none⟩,
⟨some 50, .mov (.t 12), none⟩,
⟨none, .store 5 (.t 6) (.t 48), none⟩,
⟨none, .store 2 (.t 7) (.t 49), none⟩,
⟨some 8, .mov (.t 50), none⟩] [6, 7, 8])
.ret)
.skip))
(.seq
(.region none [
⟨some 51, .load (some 5) (.t 3), none⟩,
⟨some 52, .call .shr 213 [(.t 51)], none⟩,
⟨some 13, .alloc [.sl 1 true [], .sl 1 true [], .sl 1 true [], .sl 5 true [], .sl 1 true []], none⟩,
⟨none, .store 5 (.t 13) (.t 52), none⟩] [4, 5, 6, 7, 10, 11, 13])
(.seq
(.region none [
⟨some 53, .load (some 2) (.t 4), none⟩,
⟨some 54, .load none (.t 5), none⟩,
⟨some 55, .load (some 2) (.t 11), none⟩,
⟨some 56, .build [.int .i64 0, .int .i64 0, .int .i64 0, .int .i64 0, .int .i64 0] [(0, 2, (.t 53)), (2, 1, (.t 54)), (3, 2, (.t 55))], none⟩,
⟨some 14, .alloc [.int .i64 0, .int .i64 0, .int .i64 0, .int .i64 0, .int .i64 0], none⟩,
⟨none, .store 5 (.t 14) (.t 56), none⟩] [6, 7, 10, 11, 13, 14])
(.seq
(.region (some [0, 0, 2, 0, 8, 30, 7, 127, 255, 511]) [
⟨some 57, .load (some 3) (.t 10), none⟩,
⟨some 58, .fadr 3 (.t 13), none⟩,
⟨some 59, .load none (.t 58), none⟩,
⟨some 60, .load (some 5) (.t 14), none⟩,
⟨some 61, .mkrow 5 1 [.int .i64 0, .int .i64 0, .int .i64 0, .int .i64 0, .int .i64 0] [(0, (.t 60))], none⟩,
⟨some 62, .append 5 (.t 59) (.t 61), none⟩,
⟨some 63, .fadr 0 (.t 13), none⟩,
⟨none, .store 3 (.t 63) (.t 57), none⟩,
⟨some 64, .fadr 3 (.t 13), none⟩,
⟨none, .store 1 (.t 64) (.t 62), none⟩] [6, 7, 11, 13, 14])
(.seq
(.region none [
⟨some 65, .load (some 5) (.t 13), none⟩,
⟨some 66, .fadr 3 (.t 13), none⟩,
⟨some 67, .load none (.t 66), none⟩,
⟨some 68, .len (.t 67), none⟩,
⟨some 69, .bin .sub (.t 68) (.c (.int .i64 1)), none⟩,
⟨some 70, .load (some 5) (.t 14), none⟩,
⟨some 71, .call .fp 214 [(.t 65), (.t 69), (.t 70)], none⟩] [6, 7, 11, 13])
(.seq
(.region (some [0, 0, 1, 7, 15]) [
⟨some 72, .load (some 5) (.t 13), none⟩,
⟨some 73, .load (some 2) (.t 11), none⟩,
⟨none, .store 5 (.t 6) (.t 72), none⟩,
⟨none, .store 2 (.t 7) (.t 73), none⟩,
⟨some 8, .mov (.c (.int .i64 0)), none⟩] [6, 7, 8])
.ret))))))))))),
[.cell 6 (some 5), .cell 7 (some 2), .tmp 8]⟩

theorem x170_ok : chkFunc Go.Proofs.Tryz.prog (fun _ => true) x170 170 = true := by decide +kernel

/-- peloton/agenda.Remove -/
def x171 : XFunc := ⟨2,
(.seq
(.region none [
⟨some 2, .box (.t 0), none⟩,
⟨some 3, .box (.t 1), none⟩,
⟨some 4, .alloc [.sl 1 true [], .sl 1 true [], .sl 1 true [], .sl 5 true [], .sl 1 true []], none⟩,
⟨some 5, .alloc [.int .i64 0, .int .i64 0, .int .i64 0, .int .i64 0, .int .i64 0], none⟩,
⟨some 6, .mov (.c (.int .i64 0)), none⟩] [2, 3, 4, 5])
(.seq
(.region none [
⟨some 10, .load (some 5) (.t 2), none⟩,
⟨some 11, .load (some 2) (.t 3), none⟩,
⟨some 12, .call .pur 212 [(.t 10), (.t 11)], none⟩,
⟨some 9, .mov (.t 12), none⟩,
⟨some 13, .ext 0 (.t 9), none⟩,
⟨some 14, .ext 1 (.t 9), none⟩,
⟨some 7, .mov (.t 13), none⟩,
⟨some 8, .mov (.t 14), none⟩] [2, 4, 5, 7, 8])
(.seq
(.seq
(.region none [
⟨some 15, .mov (.t 8), none⟩,
⟨some 16, .bin .neq (.t 15) (.c (.int .i64 0)), none⟩] [2, 4, 5, 7, 8, 16])
(.cond (.t 16)
(.seq
(.region none [
⟨some 17, .build [.sl 1 true [], .sl 1 true [], .sl 1 true [], .sl 5 true [], .sl 1 true []] [], none⟩,
⟨some 18, .build [.int .i64 0, .int .i64 0, .int .i64 0, .int .i64 0, .int .i64 0] [], none⟩,
⟨some 19, .mov (.t 8), none⟩,
⟨none, .store 5 (.t 4) (.t 17), none⟩,
⟨none, .store 5 (.t 5) (.t 18), none⟩,
⟨some 6, .mov (.t 19), none⟩] [4, 5, 6])
.ret)
.skip))
(.seq
(.region none [
⟨some 20, .load (some 5) (.t 2), none⟩,
⟨some 21, .mov (.t 7), none⟩,
⟨some 22, .call .pur 218 [(.t 20), (.t 21)], none⟩,
⟨some 23, .ext 0 (.t 22), none⟩,
⟨some 24, .ext 1 (.t 22), none⟩,
⟨some 25, .ext 2 (.t 22), none⟩,
⟨none, .store 5 (.t 4) (.t 23), none⟩,
⟨none, .store 5 (.t 5) (.t 24), none⟩,
⟨some 6, .mov (.t 25), none⟩] [4, 5, 6])
.ret)))),
[.cell 4 (some 5), .cell 5 (some 5), .tmp 6]⟩

theorem x171_ok : chkFunc Go.Proofs.Tryz.prog (fun _ => true) x171 171 = true := by decide +kernel

/-- slices.IndexFunc[[]peloton/api.Held,peloton/api.Held] -/
def x172 : XFunc := ⟨2,
(.seq
(.region none [
⟨some 4, .mov (.c (.int .i64 0)), none⟩] [0, 1])
(.seq
(.seq
(.region none [
⟨some 6, .mov (.t 0), none⟩,
⟨some 7, .len (.t 6), none⟩,
⟨some 8, .mov (.c (.int .i64 0)), none⟩] [0, 1, 7, 8])
(.block 0
(.loop [(0, none), (1, none), (7, none), (8, none)]
(.seq
(.region none [
⟨some 9, .bin .lss (.t 8) (.t 7), none⟩] [0, 1, 7, 8, 9])
(.seq
(.cond (.t 9)
.skip
(.exit 0))
(.seq
(.block 1
(.seq
(.region none [
⟨some 10, .mov (.t 8), none⟩,
⟨some 5, .mov (.t 10), none⟩] [0, 1, 5, 7, 8])
(.seq
(.region none [
⟨some 11, .mov (.t 1), none⟩,
⟨some 12, .mov (.t 0), none⟩,
⟨some 13, .mov (.t 5), none⟩,
⟨some 14, .iadr 3 (.t 12) (.t 13), none⟩,
⟨some 15, .load (some 3) (.t 14), none⟩,
⟨some 16, .callv (.t 11) [(.t 15)], none⟩] [0, 1, 5, 7, 8, 16])
(.cond (.t 16)
(.seq
(.region none [
⟨some 17, .mov (.t 5), none⟩,
⟨some 4, .mov (.t 17), none⟩] [4])
.ret)
.skip))))
(.region none [
⟨some 18, .bin .add (.t 8) (.c (.int .i64 1)), none⟩,
⟨some 8, .mov (.t 18), none⟩] [0, 1, 7, 8])))))))
(.seq
(.region none [
⟨some 4, .mov (.c (.int .i64 (-1))), none⟩] [4])
.ret))),
[.tmp 4]⟩

theorem x172_ok : chkFunc Go.Proofs.Tryz.prog (fun _ => true) x172 172 = true := by decide +kernel

/-- peloton/clock.Certify$1 -/
def x173 : XFunc := ⟨1,
(.seq
(.region none [
⟨some 2, .alloc [.int .i64 0, .int .i64 0, .sl 3 true [], .int .i64 0, .sl 3 true [], .sl 1 true [], .sl 1 true [], .sl 1 true [], .sl 5 true [], .sl 1 true [], .sl 3 true []], none⟩,
⟨some 3, .mov (.c (.int .i64 0)), none⟩,
⟨some 4, .mov (.c (.int .i64 0)), none⟩] [0, 2])
(.seq
(.region none [
⟨some 5, .build [.int .i64 0, .int .i64 0, .sl 3 true [], .int .i64 0, .sl 3 true [], .sl 1 true [], .sl 1 true [], .sl 1 true [], .sl 5 true [], .sl 1 true [], .sl 3 true []] [], none⟩,
⟨some 6, .mov (.t 0), none⟩,
⟨none, .store 11 (.t 2) (.t 5), none⟩,
⟨some 3, .mov (.c (.int .i64 0)), none⟩,
⟨some 4, .mov (.t 6), none⟩] [2, 3, 4])
.ret)),
[.cell 2 (some 11), .tmp 3, .tmp 4]⟩

theorem x173_ok : chkFunc Go.Proofs.Tryz.prog (fun _ => true) x173 173 = true := by decide +kernel

/-- peloton/cert.Add -/
def x174 : XFunc := ⟨2,
(.seq
(.region none [
⟨some 2, .box (.t 0), none⟩,
⟨some 3, .box (.t 1), none⟩,
⟨some 4, .alloc [.int .i64 0, .sl 3 true []], none⟩,
⟨some 5, .mov (.c (.int .i64 0)), none⟩,
⟨some 6, .mov (.c (.int .i64 0)), none⟩] [2, 3, 4])
(.seq
(.seq
(.region none [
⟨some 9, .load (some 2) (.t 2), none⟩,
⟨some 10, .call .pur 100 [(.t 9)], none⟩,
⟨some 7, .mov (.t 10), none⟩] [2, 3, 4, 7])
(.seq
(.region none [
⟨some 11, .mov (.t 7), none⟩,
⟨some 12, .bin .neq (.t 11) (.c (.int .i64 0)), none⟩] [2, 3, 4, 7, 12])
(.cond (.t 12)
(.seq
(.region none [
⟨some 13, .build [.int .i64 0, .sl 3 true []] [], none⟩,
⟨some 14, .mov (.t 7), none⟩,
⟨none, .store 2 (.t 4) (.t 13), none⟩,
⟨some 5, .mov (.c (.int .i64 0)), none⟩,
⟨some 6, .mov (.t 14), none⟩] [4, 5, 6])
.ret)
.skip)))
(.seq
(.seq
(.region none [
⟨some 15, .load (some 2) (.t 3), none⟩,
⟨some 16, .call .pur 160 [(.t 15)], none⟩,
⟨some 17, .un .not (.t 16), none⟩] [2, 3, 4, 17])
(.cond (.t 17)
(.seq
(.region none [
⟨some 18, .build [.int .i64 0, .sl 3 true []] [], none⟩,
⟨none, .store 2 (.t 4) (.t 18), none⟩,
⟨some 5, .mov (.c (.int .i64 0)), none⟩,
⟨some 6, .mov (.c (.int .i64 8)), none⟩] [4, 5, 6])
.ret)
.skip))
(.seq
(.seq
(.region none [
⟨some 19, .fadr 1 (.t 2), none⟩,
⟨some 20, .load none (.t 19), none⟩,
⟨some 21, .mkf 219 [] [(.t 3)], none⟩,
⟨some 22, .call .pur 109 [(.t 20), (.t 21)], none⟩] [2, 3, 4, 22])
(.cond (.t 22)
(.seq
(.region none [
⟨some 23, .build [.int .i64 0, .sl 3 true []] [], none⟩,
⟨none, .store 2 (.t 4) (.t 23), none⟩,
⟨some 5, .mov (.c (.int .i64 0)), none⟩,
⟨some 6, .mov (.c (.int .i64 14)), none⟩] [4, 5, 6])
.ret)
.skip))
(.seq
(.seq
(.region none [
⟨some 24, .fadr 1 (.t 2), none⟩,
⟨some 25, .load none (.t 24), none⟩,
⟨some 26, .len (.t 25), none⟩,
⟨some 27, .bin .eql (.t 26) (.c (.int .i64 200)), none⟩,
⟨some 28, .mov (.t 27), none⟩,
⟨some 29, .fadr 0 (.t 2), (some (28, false))⟩,
⟨some 30, .load none (.t 29), (some (28, false))⟩,
⟨some 31, .bin .eql (.t 30) (.c (.int .i64 1000000)), (some (28, false))⟩,
⟨some 32, .pick (.t 28) (.c (.bool true)) (.t 31), none⟩] [2, 3, 4, 32])
(.cond (.t 32)
(.seq
(.region none [
⟨some 33, .build [.int .i64 0, .sl 3 true []] [], none⟩,
⟨none, .store 2 (.t 4) (.t 33), none⟩,
⟨some 5, .mov (.c (.int .i64 0)), none⟩,
⟨some 6, .mov (.c (.int .i64 18)), none⟩] [4, 5, 6])
.ret)
.skip))
(.seq
(.region (some [0, 1, 3, 0, 8, 0, 56, 120, 255, 511]) [
⟨some 34, .fadr 1 (.t 2), none⟩,
⟨some 35, .load none (.t 34), none⟩,
⟨some 36, .call .pur 113 [(.t 35)], none⟩,
⟨some 37, .fadr 0 (.t 2), none⟩,
⟨some 38, .load none (.t 37), none⟩,
⟨some 39, .load (some 2) (.t 3), none⟩,
⟨some 40, .build [.int .i64 0, .int .i64 0, .int .i64 0] [(0, 1, (.t 38)), (1, 2, (.t 39))], none⟩,
⟨some 41, .mkrow 3 1 [.int .i64 0, .int .i64 0, .int .i64 0] [(0, (.t 40))], none⟩,
⟨some 42, .append 3 (.t 36) (.t 41), none⟩,
⟨some 8, .mov (.t 42), none⟩] [2, 4, 8])
(.seq
(.region (some [0, 1, 3, 0, 15, 0, 32, 31, 255, 511]) [
⟨some 43, .fadr 0 (.t 2), none⟩,
⟨some 44, .load none (.t 43), none⟩,
⟨some 45, .bin .add (.t 44) (.c (.int .i64 1)), none⟩,
⟨some 46, .mov (.t 8), none⟩,
⟨some 47, .build [.int .i64 0, .sl 3 true []] [(0, 1, (.t 45)), (1, 1, (.t 46))], none⟩,
⟨some 48, .fadr 0 (.t 2), none⟩,
⟨some 49, .load none (.t 48), none⟩,
⟨none, .store 2 (.t 4) (.t 47), none⟩,
⟨some 5, .mov (.t 49), none⟩,
⟨some 6, .mov (.c (.int .i64 0)), none⟩] [4, 5, 6])
.ret))))))),
[.cell 4 (some 2), .tmp 5, .tmp 6]⟩

theorem x174_ok : chkFunc Go.Proofs.Tryz.prog (fun _ => true) x174 174 = true := by decide +kernel

/-- peloton/pelotonref07.Less -/
def x177 : XFunc := ⟨2,
(.seq
(.region none [
⟨some 2, .box (.t 0), none⟩,
⟨some 3, .box (.t 1), none⟩,
⟨some 4, .mov (.c (.bool false)), none⟩] [2, 3])
(.seq
(.region none [
⟨some 6, .fadr 0 (.t 2), none⟩,
⟨some 7, .load (some 2) (.t 6), none⟩,
⟨some 8, .fadr 0 (.t 3), none⟩,
⟨some 9, .load (some 2) (.t 8), none⟩,
⟨some 10, .call .pur 35 [(.t 7), (.t 9)], none⟩,
⟨some 5, .mov (.t 10), none⟩] [2, 3, 5])
(.seq
(.region none [
⟨some 11, .mov (.t 5), none⟩,
⟨some 12, .bin .lss (.t 11) (.c (.int .i64 0)), none⟩,
⟨some 13, .mov (.t 12), none⟩,
⟨some 14, .mov (.t 5), (some (13, false))⟩,
⟨some 15, .bin .eql (.t 14) (.c (.int .i64 0)), (some (13, false))⟩,
⟨some 16, .mov (.t 15), (some (13, false))⟩,
⟨some 17, .fadr 2 (.t 2), (some (16, true))⟩,
⟨some 18, .load none (.t 17), (some (16, true))⟩,
⟨some 19, .fadr 2 (.t 3), (some (16, true))⟩,
⟨some 20, .load none (.t 19), (some (16, true))⟩,
⟨some 21, .bin .lss (.t 18) (.t 20), (some (16, true))⟩,
⟨some 22, .pick (.t 16) (.t 21) (.c (.bool false)), (some (13, false))⟩,
⟨some 23, .pick (.t 13) (.c (.bool true)) (.t 22), none⟩,
⟨some 4, .mov (.t 23), none⟩] [4])
.ret))),
[.tmp 4]⟩

theorem x177_ok : chkFunc Go.Proofs.Tryz.prog (fun _ => true) x177 177 = true := by decide +kernel

/-- peloton/pelotonref02.Failure -/
def x178 : XFunc := ⟨3,
(.seq
(.region none [
⟨some 3, .box (.t 0), none⟩,
⟨some 4, .box (.t 1), none⟩,
⟨some 5, .box (.t 2), none⟩,
⟨some 6, .alloc [.int .i64 0, .int .i64 0], none⟩,
⟨some 7, .mov (.c (.bool false)), none⟩] [3, 4, 5, 6])
(.seq
(.seq
(.region none [
⟨some 8, .load (some 3) (.t 4), none⟩,
⟨some 9, .load (some 3) (.t 3), none⟩,
⟨some 10, .load (some 2) (.t 5), none⟩,
⟨some 11, .call .pur 91 [(.t 8), (.t 9), (.t 10)], none⟩] [3, 4, 5, 6, 11])
(.cond (.t 11)
(.seq
(.region none [
⟨some 12, .load (some 2) (.t 5), none⟩,
⟨none, .store 2 (.t 6) (.t 12), none⟩,
⟨some 7, .mov (.c (.bool true)), none⟩] [6, 7])
.ret)
.skip))
(.seq
(.seq
(.region none [
⟨some 13, .fadr 2 (.t 4), none⟩,
⟨some 14, .load none (.t 13), none⟩,
⟨some 15, .fadr 2 (.t 3), none⟩,
⟨some 16, .load none (.t 15), none⟩,
⟨some 17, .bin .gtr (.t 14) (.t 16), none⟩] [3, 4, 6, 17])
(.cond (.t 17)
(.seq
(.region none [
⟨some 18, .load (some 3) (.t 3), none⟩,
⟨some 19, .load (some 3) (.t 4), none⟩,
⟨some 20, .call .pur 220 [(.t 18), (.t 19)], none⟩,
⟨none, .store 2 (.t 6) (.t 20), none⟩,
⟨some 7, .mov (.c (.bool true)), none⟩] [6, 7])
.ret)
.skip))
(.seq
(.region none [
⟨some 21, .build [.int .i64 0, .int .i64 0] [], none⟩,
⟨none, .store 2 (.t 6) (.t 21), none⟩,
⟨some 7, .mov (.c (.bool false)), none⟩] [6, 7])
.ret)))),
[.cell 6 (some 2), .tmp 7]⟩

theorem x178_ok : chkFunc Go.Proofs.Tryz.prog (fun _ => true) x178 178 = true := by decide +kernel

/-- peloton/pelotonref07.Rekeyed -/
def x180 : XFunc := ⟨3,
(.seq
(.region none [
⟨some 3, .box (.t 0), none⟩,
⟨some 4, .box (.t 1), none⟩,
⟨some 5, .box (.t 2), none⟩,
⟨some 6, .alloc [.sl 1 true [], .sl 1 true [], .sl 1 true [], .sl 5 true [], .sl 1 true []], none⟩] [3, 4, 5, 6])
(.seq
(.region none [
⟨some 9, .load (some 5) (.t 3), none⟩,
⟨some 10, .call .own 53 [(.t 9)], none⟩,
⟨some 7, .alloc [.sl 1 true [], .sl 1 true [], .sl 1 true [], .sl 5 true [], .sl 1 true []], none⟩,
⟨none, .store 5 (.t 7) (.t 10), none⟩] [4, 5, 6, 7])
(.seq
(.region none [
⟨some 11, .fadr 4 (.t 7), none⟩,
⟨some 12, .load none (.t 11), none⟩,
⟨some 13, .fadr 0 (.t 4), none⟩,
⟨some 14, .load none (.t 13), none⟩,
⟨some 15, .iadr 1 (.t 12) (.t 14), none⟩,
⟨some 16, .load none (.t 15), none⟩,
⟨some 8, .mov (.t 16), none⟩] [5, 6, 7, 8])
(.seq
(.region none [
⟨some 17, .fadr 3 (.t 7), none⟩,
⟨some 18, .load none (.t 17), none⟩,
⟨some 19, .mov (.t 8), none⟩,
⟨some 20, .load (some 2) (.t 5), none⟩,
⟨some 21, .iadr 5 (.t 18) (.t 19), none⟩,
⟨some 22, .fadr 0 (.t 21), none⟩,
⟨none, .store 2 (.t 22) (.t 20), none⟩] [6, 7, 8])
(.seq
(.region (some [0, 0, 0, 6, 15]) [
⟨some 23, .load (some 5) (.t 7), none⟩,
⟨some 24, .load (some 5) (.t 7), none⟩,
⟨some 25, .mov (.t 8), none⟩,
⟨some 26, .call .fp 149 [(.t 24), (.t 25)], none⟩,
⟨some 27, .call .fp 148 [(.t 23), (.t 26)], none⟩] [6, 7])
(.seq
(.region none [
⟨some 28, .load (some 5) (.t 7), none⟩,
⟨none, .store 5 (.t 6) (.t 28), none⟩] [6])
.ret)))))),
[.cell 6 (some 5)]⟩

theorem x180_ok : chkFunc Go.Proofs.Tryz.prog (fun _ => true) x180 180 = true := by decide +kernel

/-- peloton/pelotonref06.Open -/
def x181 : XFunc := ⟨1,
(.seq
(.region none [
⟨some 1, .box (.t 0), none⟩,
⟨some 2, .mov (.c (.bool false)), none⟩] [1])
(.seq
(.region none [
⟨some 4, .fadr 2 (.t 1), none⟩,
⟨some 5, .load none (.t 4), none⟩,
⟨some 6, .len (.t 5), none⟩,
⟨some 3, .mov (.t 6), none⟩] [1, 3])
(.seq
(.region (some [0, 1, 3, 7, 15, 7, 39, 7, 135, 487, 999, 2047, 4095, 8191, 16383, 32767]) [
⟨some 7, .mov (.t 3), none⟩,
⟨some 8, .bin .gtr (.t 7) (.c (.int .i64 0)), none⟩,
⟨some 9, .mov (.t 8), none⟩,
⟨some 10, .fadr 0 (.t 1), (some (9, true))⟩,
⟨some 11, .load none (.t 10), (some (9, true))⟩,
⟨some 12, .fadr 2 (.t 1), (some (9, true))⟩,
⟨some 13, .load none (.t 12), (some (9, true))⟩,
⟨some 14, .mov (.t 3), (some (9, true))⟩,
⟨some 15, .bin .sub (.t 14) (.c (.int .i64 1)), (some (9, true))⟩,
⟨some 16, .iadr 1 (.t 13) (.t 15), (some (9, true))⟩,
⟨some 17, .load none (.t 16), (some (9, true))⟩,
⟨some 18, .iadr 1 (.t 11) (.t 17), (some (9, true))⟩,
⟨some 19, .load none (.t 18), (some (9, true))⟩,
⟨some 20, .bin .lss (.t 19) (.c (.int .i64 1000000)), (some (9, true))⟩,
⟨some 21, .pick (.t 9) (.t 20) (.c (.bool false)), none⟩,
⟨some 2, .mov (.t 21), none⟩] [2])
.ret))),
[.tmp 2]⟩

theorem x181_ok : chkFunc Go.Proofs.Tryz.prog (fun _ => true) x181 181 = true := by decide +kernel

/-- peloton/pelotonref07.Pushed -/
def x182 : XFunc := ⟨3,
(.seq
(.region none [
⟨some 3, .box (.t 0), none⟩,
⟨some 4, .box (.t 1), none⟩,
⟨some 6, .alloc [.sl 1 true [], .sl 1 true [], .sl 1 true [], .sl 5 true [], .sl 1 true []], none⟩,
⟨some 7, .alloc [.int .i64 0, .int .i64 0], none⟩] [2, 3, 4, 6, 7])
(.seq
(.region none [
⟨some 11, .load (some 5) (.t 3), none⟩,
⟨some 12, .call .own 53 [(.t 11)], none⟩,
⟨some 8, .alloc [.sl 1 true [], .sl 1 true [], .sl 1 true [], .sl 5 true [], .sl 1 true []], none⟩,
⟨none, .store 5 (.t 8) (.t 12), none⟩] [2, 4, 6, 7, 8])
(.seq
(.region none [
⟨some 14, .fadr 0 (.t 8), none⟩,
⟨some 15, .load (some 3) (.t 14), none⟩,
⟨some 16, .call .pur 221 [(.t 15)], none⟩,
⟨some 13, .mov (.t 16), none⟩,
⟨some 17, .ext 0 (.t 13), none⟩,
⟨some 18, .ext 1 (.t 13), none⟩,
⟨some 9, .alloc [.sl 1 true [], .sl 1 true [], .sl 1 true []], none⟩,
⟨some 10, .alloc [.int .i64 0, .int .i64 0], none⟩,
⟨none, .store 3 (.t 9) (.t 17), none⟩,
⟨none, .store 2 (.t 10) (.t 18), none⟩] [2, 4, 6, 7, 8, 9, 10])
(.seq
(.region none [
⟨some 19, .load (some 3) (.t 9), none⟩,
⟨some 20, .fadr 0 (.t 8), none⟩,
⟨none, .store 3 (.t 20) (.t 19), none⟩] [2, 4, 6, 7, 8, 10])
(.seq
(.region none [
⟨some 21, .fadr 3 (.t 8), none⟩,
⟨some 22, .load none (.t 21), none⟩,
⟨some 23, .load (some 2) (.t 4), none⟩,
⟨some 24, .mov (.t 2), none⟩,
⟨some 25, .load (some 2) (.t 10), none⟩,
⟨some 26, .build [.int .i64 0, .int .i64 0, .int .i64 0, .int .i64 0, .int .i64 0] [(0, 2, (.t 23)), (2, 1, (.t 24)), (3, 2, (.t 25))], none⟩,
⟨some 27, .mkrow 5 1 [.int .i64 0, .int .i64 0, .int .i64 0, .int .i64 0, .int .i64 0] [(0, (.t 26))], none⟩,
⟨some 28, .append 5 (.t 22) (.t 27), none⟩,
⟨some 29, .fadr 3 (.t 8), none⟩,
⟨none, .store 1 (.t 29) (.t 28), none⟩] [6, 7, 8, 10])
(.seq
(.region none [
⟨some 30, .fadr 4 (.t 8), none⟩,
⟨some 31, .load none (.t 30), none⟩,
⟨some 32, .fadr 0 (.t 10), none⟩,
⟨some 33, .load none (.t 32), none⟩,
⟨some 34, .fadr 3 (.t 8), none⟩,
⟨some 35, .load none (.t 34), none⟩,
⟨some 36, .len (.t 35), none⟩,
⟨some 37, .bin .sub (.t 36) (.c (.int .i64 1)), none⟩,
⟨some 38, .iadr 1 (.t 31) (.t 33), none⟩,
⟨none, .store 1 (.t 38) (.t 37), none⟩] [6, 7, 8, 10])
(.seq
(.region none [
⟨some 39, .load (some 5) (.t 8), none⟩,
⟨some 40, .fadr 3 (.t 8), none⟩,
⟨some 41, .load none (.t 40), none⟩,
⟨some 42, .len (.t 41), none⟩,
⟨some 43, .bin .sub (.t 42) (.c (.int .i64 1)), none⟩,
⟨some 44, .call .fp 149 [(.t 39), (.t 43)], none⟩] [6, 7, 8, 10])
(.seq
(.region (some [0, 0, 1, 7]) [
⟨some 45, .load (some 5) (.t 8), none⟩,
⟨some 46, .load (some 2) (.t 10), none⟩,
⟨none, .store 5 (.t 6) (.t 45), none⟩,
⟨none, .store 2 (.t 7) (.t 46), none⟩] [6, 7])
.ret)))))))),
[.cell 6 (some 5), .cell 7 (some 2)]⟩

theorem x182_ok : chkFunc Go.Proofs.Tryz.prog (fun _ => true) x182 182 = true := by decide +kernel

/-- peloton/pelotonref08.Add -/
def x183 : XFunc := ⟨2,
(.seq
(.region none [
⟨some 2, .box (.t 0), none⟩,
⟨some 3, .box (.t 1), none⟩,
⟨some 4, .alloc [.int .i64 0, .sl 3 true []], none⟩,
⟨some 5, .mov (.c (.int .i64 0)), none⟩,
⟨some 6, .mov (.c (.int .i64 0)), none⟩] [2, 3, 4])
(.seq
(.seq
(.region none [
⟨some 8, .load (some 2) (.t 2), none⟩,
⟨some 9, .call .pur 117 [(.t 8)], none⟩,
⟨some 10, .bin .neq (.t 9) (.c (.int .i64 0)), none⟩,
⟨some 11, .mov (.t 10), none⟩,
⟨some 12, .load (some 2) (.t 3), (some (11, false))⟩,
⟨some 13, .call .pur 122 [(.t 12)], (some (11, false))⟩,
⟨some 14, .un .not (.t 13), (some (11, false))⟩,
⟨some 15, .pick (.t 11) (.c (.bool true)) (.t 14), none⟩] [2, 3, 4, 15])
(.cond (.t 15)
(.seq
(.region none [
⟨some 16, .build [.int .i64 0, .sl 3 true []] [], none⟩,
⟨none, .store 2 (.t 4) (.t 16), none⟩,
⟨some 5, .mov (.c (.int .i64 0)), none⟩,
⟨some 6, .mov (.c (.int .i64 8)), none⟩] [4, 5, 6])
.ret)
.skip))
(.seq
(.seq
(.region none [
⟨some 17, .load (some 2) (.t 2), none⟩,
⟨some 18, .load (some 2) (.t 3), none⟩,
⟨some 19, .call .pur 124 [(.t 17), (.t 18)], none⟩] [2, 3, 4, 19])
(.cond (.t 19)
(.seq
(.region none [
⟨some 20, .build [.int .i64 0, .sl 3 true []] [], none⟩,
⟨none, .store 2 (.t 4) (.t 20), none⟩,
⟨some 5, .mov (.c (.int .i64 0)), none⟩,
⟨some 6, .mov (.c (.int .i64 14)), none⟩] [4, 5, 6])
.ret)
.skip))
(.seq
(.seq
(.region none [
⟨some 21, .fadr 1 (.t 2), none⟩,
⟨some 22, .load none (.t 21), none⟩,
⟨some 23, .len (.t 22), none⟩,
⟨some 24, .bin .eql (.t 23) (.c (.int .i64 200)), none⟩,
⟨some 25, .mov (.t 24), none⟩,
⟨some 26, .fadr 0 (.t 2), (some (25, false))⟩,
⟨some 27, .load none (.t 26), (some (25, false))⟩,
⟨some 28, .bin .eql (.t 27) (.c (.int .i64 1000000)), (some (25, false))⟩,
⟨some 29, .pick (.t 25) (.c (.bool true)) (.t 28), none⟩] [2, 3, 4, 29])
(.cond (.t 29)
(.seq
(.region none [
⟨some 30, .build [.int .i64 0, .sl 3 true []] [], none⟩,
⟨none, .store 2 (.t 4) (.t 30), none⟩,
⟨some 5, .mov (.c (.int .i64 0)), none⟩,
⟨some 6, .mov (.c (.int .i64 18)), none⟩] [4, 5, 6])
.ret)
.skip))
(.seq
(.region none [
⟨some 31, .load (some 2) (.t 2), none⟩,
⟨some 32, .call .own 52 [(.t 31)], none⟩,
⟨some 7, .alloc [.int .i64 0, .sl 3 true []], none⟩,
⟨none, .store 2 (.t 7) (.t 32), none⟩] [2, 3, 4, 7])
(.seq
(.region none [
⟨some 33, .fadr 1 (.t 7), none⟩,
⟨some 34, .load none (.t 33), none⟩,
⟨some 35, .fadr 0 (.t 2), none⟩,
⟨some 36, .load none (.t 35), none⟩,
⟨some 37, .load (some 2) (.t 3), none⟩,
⟨some 38, .build [.int .i64 0, .int .i64 0, .int .i64 0] [(0, 1, (.t 36)), (1, 2, (.t 37))], none⟩,
⟨some 39, .mkrow 3 1 [.int .i64 0, .int .i64 0, .int .i64 0] [(0, (.t 38))], none⟩,
⟨some 40, .append 3 (.t 34) (.t 39), none⟩,
⟨some 41, .fadr 1 (.t 7), none⟩,
⟨none, .store 1 (.t 41) (.t 40), none⟩] [2, 4, 7])
(.seq
(.region none [
⟨some 42, .fadr 0 (.t 7), none⟩,
⟨some 43, .load none (.t 42), none⟩,
⟨some 44, .bin .add (.t 43) (.c (.int .i64 1)), none⟩,
⟨some 45, .fadr 0 (.t 7), none⟩,
⟨none, .store 1 (.t 45) (.t 44), none⟩] [2, 4, 7])
(.seq
(.region (some [0, 0, 2, 1, 15, 31]) [
⟨some 46, .load (some 2) (.t 7), none⟩,
⟨some 47, .fadr 0 (.t 2), none⟩,
⟨some 48, .load none (.t 47), none⟩,
⟨none, .store 2 (.t 4) (.t 46), none⟩,
⟨some 5, .mov (.t 48), none⟩,
⟨some 6, .mov (.c (.int .i64 0)), none⟩] [4, 5, 6])
.ret)))))))),
[.cell 4 (some 2), .tmp 5, .tmp 6]⟩

theorem x183_ok : chkFunc Go.Proofs.Tryz.prog (fun _ => true) x183 183 = true := by decide +kernel

/-- cmp.isNaN[int64] -/
def x185 : XFunc := ⟨1,
(.seq
(.region none [
⟨some 2, .mov (.c (.bool false)), none⟩] [0])
(.seq
(.region none [
⟨some 3, .mov (.t 0), none⟩,
⟨some 4, .mov (.t 0), none⟩,
⟨some 5, .bin .neq (.t 3) (.t 4), none⟩,
⟨some 2, .mov (.t 5), none⟩] [2])
.ret)),
[.tmp 2]⟩

theorem x185_ok : chkFunc Go.Proofs.Tryz.prog (fun _ => true) x185 185 = true := by decide +kernel

/-- cmp.Compare[uint64] -/
def x186 : XFunc := ⟨2,
(.seq
(.region none [
⟨some 4, .mov (.c (.int .i64 0)), none⟩] [0, 1])
(.seq
(.region none [
⟨some 7, .mov (.t 0), none⟩,
⟨some 8, .call .pur 222 [(.t 7)], none⟩,
⟨some 5, .mov (.t 8), none⟩] [0, 1, 5])
(.seq
(.region none [
⟨some 9, .mov (.t 1), none⟩,
⟨some 10, .call .pur 222 [(.t 9)], none⟩,
⟨some 6, .mov (.t 10), none⟩] [0, 1, 5, 6])
(.seq
(.seq
(.region none [
⟨some 11, .mov (.t 5), none⟩] [0, 1, 6, 11])
(.cond (.t 11)
(.seq
(.seq
(.region none [
⟨some 12, .mov (.t 6), none⟩] [12])
(.cond (.t 12)
(.seq
(.region none [
⟨some 4, .mov (.c (.int .i64 0)), none⟩] [4])
.ret)
.skip))
(.seq
(.region none [
⟨some 4, .mov (.c (.int .i64 (-1))), none⟩] [4])
.ret))
.skip))
(.seq
(.seq
(.region none [
⟨some 13, .mov (.t 6), none⟩] [0, 1, 13])
(.cond (.t 13)
(.seq
(.region none [
⟨some 4, .mov (.c (.int .i64 1)), none⟩] [4])
.ret)
.skip))
(.seq
(.seq
(.region none [
⟨some 14, .mov (.t 0), none⟩,
⟨some 15, .mov (.t 1), none⟩,
⟨some 16, .bin .lss (.t 14) (.t 15), none⟩] [0, 1, 16])
(.cond (.t 16)
(.seq
(.region none [
⟨some 4, .mov (.c (.int .i64 (-1))), none⟩] [4])
.ret)
.skip))
(.seq
(.seq
(.region none [
⟨some 17, .mov (.t 0), none⟩,
⟨some 18, .mov (.t 1), none⟩,
⟨some 19, .bin .gtr (.t 17) (.t 18), none⟩] [19])
(.cond (.t 19)
(.seq
(.region none [
⟨some 4, .mov (.c (.int .i64 1)), none⟩] [4])
.ret)
.skip))
(.seq
(.region none [
⟨some 4, .mov (.c (.int .i64 0)), none⟩] [4])
.ret)))))))),
[.tmp 4]⟩

theorem x186_ok : chkFunc Go.Proofs.Tryz.prog (fun _ => true) x186 186 = true := by decide +kernel

/-- math/bits.Mul64 -/
def x187 : XFunc := ⟨2,
(.seq
(.region none [
⟨some 4, .mov (.c (.int .u64 0)), none⟩,
⟨some 5, .mov (.c (.int .u64 0)), none⟩] [0, 1])
(.seq
(.region none [
⟨some 14, .mov (.t 0), none⟩,
⟨some 15, .bin .and (.t 14) (.c (.int .u64 4294967295)), none⟩,
⟨some 6, .mov (.t 15), none⟩] [0, 1, 6])
(.seq
(.region none [
⟨some 16, .mov (.t 0), none⟩,
⟨some 17, .bin .shr (.t 16) (.c (.int .u64 32)), none⟩,
⟨some 7, .mov (.t 17), none⟩] [0, 1, 6, 7])
(.seq
(.region none [
⟨some 18, .mov (.t 1), none⟩,
⟨some 19, .bin .and (.t 18) (.c (.int .u64 4294967295)), none⟩,
⟨some 8, .mov (.t 19), none⟩] [0, 1, 6, 7, 8])
(.seq
(.region none [
⟨some 20, .mov (.t 1), none⟩,
⟨some 21, .bin .shr (.t 20) (.c (.int .u64 32)), none⟩,
⟨some 9, .mov (.t 21), none⟩] [0, 1, 6, 7, 8, 9])
(.seq
(.region none [
⟨some 22, .mov (.t 6), none⟩,
⟨some 23, .mov (.t 8), none⟩,
⟨some 24, .bin .mul (.t 22) (.t 23), none⟩,
⟨some 10, .mov (.t 24), none⟩] [0, 1, 6, 7, 8, 9, 10])
(.seq
(.region none [
⟨some 25, .mov (.t 7), none⟩,
⟨some 26, .mov (.t 8), none⟩,
⟨some 27, .bin .mul (.t 25) (.t 26), none⟩,
⟨some 28, .mov (.t 10), none⟩,
⟨some 29, .bin .shr (.t 28) (.c (.int .u64 32)), none⟩,
⟨some 30, .bin .add (.t 27) (.t 29), none⟩,
⟨some 11, .mov (.t 30), none⟩] [0, 1, 6, 7, 9, 11])
(.seq
(.region none [
⟨some 31, .mov (.t 11), none⟩,
⟨some 32, .bin .and (.t 31) (.c (.int .u64 4294967295)), none⟩,
⟨some 12, .mov (.t 32), none⟩] [0, 1, 6, 7, 9, 11, 12])
(.seq
(.region none [
⟨some 33, .mov (.t 11), none⟩,
⟨some 34, .bin .shr (.t 33) (.c (.int .u64 32)), none⟩,
⟨some 13, .mov (.t 34), none⟩] [0, 1, 6, 7, 9, 12, 13])
(.seq
(.region none [
⟨some 35, .mov (.t 12), none⟩,
⟨some 36, .mov (.t 6), none⟩,
⟨some 37, .mov (.t 9), none⟩,
⟨some 38, .bin .mul (.t 36) (.t 37), none⟩,
⟨some 39, .bin .add (.t 35) (.t 38), none⟩,
⟨some 12, .mov (.t 39), none⟩] [0, 1, 7, 9, 12, 13])
(.seq
(.region none [
⟨some 40, .mov (.t 7), none⟩,
⟨some 41, .mov (.t 9), none⟩,
⟨some 42, .bin .mul (.t 40) (.t 41), none⟩,
⟨some 43, .mov (.t 13), none⟩,
⟨some 44, .bin .add (.t 42) (.t 43), none⟩,
⟨some 45, .mov (.t 12), none⟩,
⟨some 46, .bin .shr (.t 45) (.c (.int .u64 32)), none⟩,
⟨some 47, .bin .add (.t 44) (.t 46), none⟩,
⟨some 4, .mov (.t 47), none⟩] [0, 1, 4])
(.seq
(.region none [
⟨some 48, .mov (.t 0), none⟩,
⟨some 49, .mov (.t 1), none⟩,
⟨some 50, .bin .mul (.t 48) (.t 49), none⟩,
⟨some 5, .mov (.t 50), none⟩] [4, 5])
.ret)))))))))))),
[.tmp 4, .tmp 5]⟩

theorem x187_ok : chkFunc Go.Proofs.Tryz.prog (fun _ => true) x187 187 = true := by decide +kernel

/-- peloton/slot.New -/
def x189 : XFunc := ⟨1,
(.seq
(.region none [
⟨some 2, .alloc [.sl 1 true [], .sl 1 true [], .sl 1 true []], none⟩,
⟨some 3, .mov (.c (.int .i64 0)), none⟩] [0, 2])
(.seq
(.seq
(.region none [
⟨some 6, .mov (.t 0), none⟩,
⟨some 7, .bin .lss (.t 6) (.c (.int .i64 1)), none⟩,
⟨some 8, .mov (.t 7), none⟩,
⟨some 9, .mov (.t 0), (some (8, false))⟩,
⟨some 10, .bin .gtr (.t 9) (.c (.int .i64 200)), (some (8, false))⟩,
⟨some 11, .pick (.t 8) (.c (.bool true)) (.t 10), none⟩] [0, 2, 11])
(.cond (.t 11)
(.seq
(.region none [
⟨some 12, .build [.sl 1 true [], .sl 1 true [], .sl 1 true []] [], none⟩,
⟨none, .store 3 (.t 2) (.t 12), none⟩,
⟨some 3, .mov (.c (.int .i64 2)), none⟩] [2, 3])
.ret)
.skip))
(.seq
(.region (some [0, 1, 0, 4, 0, 16, 63, 0, 255]) [
⟨some 13, .mov (.t 0), none⟩,
⟨some 14, .mks 1 [.int .i64 0] (.t 13) (.t 13), none⟩,
⟨some 15, .mov (.t 0), none⟩,
⟨some 16, .mks 1 [.bool false] (.t 15) (.t 15), none⟩,
⟨some 17, .mov (.t 0), none⟩,
⟨some 18, .mks 1 [.int .i64 0] (.t 17) (.t 17), none⟩,
⟨some 19, .build [.sl 1 true [], .sl 1 true [], .sl 1 true []] [(0, 1, (.t 14)), (1, 1, (.t 16)), (2, 1, (.t 18))], none⟩,
⟨some 4, .alloc [.sl 1 true [], .sl 1 true [], .sl 1 true []], none⟩,
⟨none, .store 3 (.t 4) (.t 19), none⟩] [0, 2, 4])
(.seq
(.seq
(.region none [
⟨some 20, .mov (.t 0), none⟩,
⟨some 21, .mov (.c (.int .i64 0)), none⟩] [0, 2, 4, 20, 21])
(.block 0
(.loop [(0, none), (2, none), (4, none), (20, none), (21, none)]
(.seq
(.region none [
⟨some 22, .bin .lss (.t 21) (.t 20), none⟩] [0, 2, 4, 20, 21, 22])
(.seq
(.cond (.t 22)
.skip
(.exit 0))
(.seq
(.block 1
(.seq
(.region none [
⟨some 23, .mov (.t 21), none⟩,
⟨some 5, .mov (.t 23), none⟩] [0, 2, 4, 5, 20, 21])
(.region none [
⟨some 24, .fadr 2 (.t 4), none⟩,
⟨some 25, .load none (.t 24), none⟩,
⟨some 26, .mov (.t 5), none⟩,
⟨some 27, .mov (.t 0), none⟩,
⟨some 28, .bin .sub (.t 27) (.c (.int .i64 1)), none⟩,
⟨some 29, .mov (.t 5), none⟩,
⟨some 30, .bin .sub (.t 28) (.t 29), none⟩,
⟨some 31, .iadr 1 (.t 25) (.t 26), none⟩,
⟨none, .store 1 (.t 31) (.t 30), none⟩] [0, 2, 4, 20, 21])))
(.region none [
⟨some 32, .bin .add (.t 21) (.c (.int .i64 1)), none⟩,
⟨some 21, .mov (.t 32), none⟩] [0, 2, 4, 20, 21])))))))
(.seq
(.region none [
⟨some 33, .load (some 3) (.t 4), none⟩,
⟨none, .store 3 (.t 2) (.t 33), none⟩,
⟨some 3, .mov (.c (.int .i64 0)), none⟩] [2, 3])
.ret))))),
[.cell 2 (some 3), .tmp 3]⟩

theorem x189_ok : chkFunc Go.Proofs.Tryz.prog (fun _ => true) x189 189 = true := by decide +kernel

/-- slices.Repeat[[]int,int] -/
def x190 : XFunc := ⟨2,
(.seq
(.region none [
⟨some 4, .mov (.c (.sl 1 true [])), none⟩] [0, 1])
(.seq
(.seq
(.region none [
⟨some 9, .mov (.t 1), none⟩,
⟨some 10, .bin .lss (.t 9) (.c (.int .i64 0)), none⟩] [0, 1, 10])
(.cond (.t 10)
(.region none [
⟨some 11, .bad, none⟩,
⟨none, .bad, none⟩] [0, 1])
.skip))
(.seq
(.region none [
⟨some 13, .mov (.t 0), none⟩,
⟨some 14, .len (.t 13), none⟩,
⟨some 15, .conv .u64 (.t 14), none⟩,
⟨some 16, .mov (.t 1), none⟩,
⟨some 17, .conv .u64 (.t 16), none⟩,
⟨some 18, .call .pur 223 [(.t 15), (.t 17)], none⟩,
⟨some 12, .mov (.t 18), none⟩,
⟨some 19, .ext 0 (.t 12), none⟩,
⟨some 20, .ext 1 (.t 12), none⟩,
⟨some 5, .mov (.t 19), none⟩,
⟨some 6, .mov (.t 20), none⟩] [0, 5, 6])
(.seq
(.seq
(.region none [
⟨some 21, .mov (.t 5), none⟩,
⟨some 22, .bin .gtr (.t 21) (.c (.int .u64 0)), none⟩,
⟨some 23, .mov (.t 22), none⟩,
⟨some 24, .mov (.t 6), (some (23, false))⟩,
⟨some 25, .bin .gtr (.t 24) (.c (.int .u64 9223372036854775807)), (some (23, false))⟩,
⟨some 26, .pick (.t 23) (.c (.bool true)) (.t 25), none⟩] [0, 6, 26])
(.cond (.t 26)
(.region none [
⟨some 27, .bad, none⟩,
⟨none, .bad, none⟩] [0, 6])
.skip))
(.seq
(.region none [
⟨some 28, .mov (.t 6), none⟩,
⟨some 29, .conv .i64 (.t 28), none⟩,
⟨some 30, .mks 1 [.int .i64 0] (.t 29) (.t 29), none⟩,
⟨some 7, .mov (.t 30), none⟩] [0, 7])
(.seq
(.region none [
⟨some 31, .mov (.t 7), none⟩,
⟨some 32, .mov (.t 0), none⟩,
⟨some 33, .copy 1 (.t 31) (.t 32), none⟩,
⟨some 8, .mov (.t 33), none⟩] [7, 8])
(.seq
(.block 0
(.loop [(7, none), (8, none)]
(.seq
(.seq
(.region none [
⟨some 34, .mov (.t 8), none⟩,
⟨some 35, .mov (.t 7), none⟩,
⟨some 36, .len (.t 35), none⟩,
⟨some 37, .bin .lss (.t 34) (.t 36), none⟩] [7, 8, 37])
(.cond (.t 37)
.skip
(.exit 0)))
(.block 1
(.region (some [0, 0, 0, 6, 0, 0, 48, 126, 255, 511]) [
⟨some 38, .mov (.t 8), none⟩,
⟨some 39, .mov (.t 7), none⟩,
⟨some 40, .mov (.t 8), none⟩,
⟨some 41, .slc 1 (.t 39) (some (.t 40)) none none, none⟩,
⟨some 42, .mov (.t 7), none⟩,
⟨some 43, .mov (.t 8), none⟩,
⟨some 44, .slc 1 (.t 42) none (some (.t 43)) none, none⟩,
⟨some 45, .copy 1 (.t 41) (.t 44), none⟩,
⟨some 46, .bin .add (.t 38) (.t 45), none⟩,
⟨some 8, .mov (.t 46), none⟩] [7, 8])))))
(.seq
(.region none [
⟨some 47, .mov (.t 7), none⟩,
⟨some 4, .mov (.t 47), none⟩] [4])
.ret)))))))),
[.tmp 4]⟩

theorem x190_ok : chkFunc Go.Proofs.Tryz.prog (fun _ => true) x190 190 = true := by decide +kernel

/-- peloton/course.two -/
def x191 : XFunc := ⟨3,
(.seq
(.region none [
⟨some 3, .box (.t 0), none⟩,
⟨some 4, .box (.t 1), none⟩,
⟨some 5, .box (.t 2), none⟩,
⟨some 6, .mov (.c (.int .i64 0)), none⟩] [3, 4, 5])
(.seq
(.seq
(.region (some [0, 1, 0, 7, 0, 31, 63, 127]) [
⟨some 8, .load (some 3) (.t 3), none⟩,
⟨some 9, .call .pur 103 [(.t 8)], none⟩,
⟨some 10, .load (some 3) (.t 4), none⟩,
⟨some 11, .call .pur 103 [(.t 10)], none⟩,
⟨some 12, .load (some 2) (.t 5), none⟩,
⟨some 13, .call .pur 65 [(.t 12)], none⟩,
⟨some 14, .mm true (.t 9) [(.t 11), (.t 13)], none⟩,
⟨some 7, .mov (.t 14), none⟩] [3, 4, 7])
(.seq
(.region none [
⟨some 15, .mov (.t 7), none⟩,
⟨some 16, .bin .neq (.t 15) (.c (.int .i64 0)), none⟩] [3, 4, 7, 16])
(.cond (.t 16)
(.seq
(.region none [
⟨some 17, .mov (.t 7), none⟩,
⟨some 6, .mov (.t 17), none⟩] [6])
.ret)
.skip)))
(.seq
(.seq
(.region none [
⟨some 18, .fadr 0 (.t 3), none⟩,
⟨some 19, .load none (.t 18), none⟩,
⟨some 20, .fadr 0 (.t 4), none⟩,
⟨some 21, .load none (.t 20), none⟩,
⟨some 22, .bin .eql (.t 19) (.t 21), none⟩] [22])
(.cond (.t 22)
(.seq
(.region none [
⟨some 6, .mov (.c (.int .i64 2)), none⟩] [6])
.ret)
.skip))
(.seq
(.region none [
⟨some 6, .mov (.c (.int .i64 0)), none⟩] [6])
.ret)))),
[.tmp 6]⟩

theorem x191_ok : chkFunc Go.Proofs.Tryz.prog (fun _ => true) x191 191 = true := by decide +kernel

/-- peloton/course.compare -/
def x192 : XFunc := ⟨3,
(.seq
(.region none [
⟨some 3, .box (.t 0), none⟩,
⟨some 4, .box (.t 1), none⟩,
⟨some 5, .box (.t 2), none⟩,
⟨some 6, .mov (.c (.int .i64 0)), none⟩] [3, 4, 5])
(.seq
(.region none [
⟨some 8, .fadr 1 (.t 3), none⟩,
⟨some 9, .load none (.t 8), none⟩,
⟨some 10, .fadr 1 (.t 4), none⟩,
⟨some 11, .load none (.t 10), none⟩,
⟨some 12, .bin .sub (.t 9) (.t 11), none⟩,
⟨some 13, .fadr 1 (.t 5), none⟩,
⟨some 14, .load none (.t 13), none⟩,
⟨some 15, .build [.int .i64 0, .int .i64 0] [(0, 1, (.t 12)), (1, 1, (.t 14))], none⟩,
⟨some 16, .fadr 2 (.t 3), none⟩,
⟨some 17, .load none (.t 16), none⟩,
⟨some 18, .fadr 2 (.t 4), none⟩,
⟨some 19, .load none (.t 18), none⟩,
⟨some 20, .bin .sub (.t 17) (.t 19), none⟩,
⟨some 21, .fadr 0 (.t 5), none⟩,
⟨some 22, .load none (.t 21), none⟩,
⟨some 23, .build [.int .i64 0, .int .i64 0] [(0, 1, (.t 20)), (1, 1, (.t 22))], none⟩,
⟨some 24, .build [.int .i64 0, .int .i64 0, .int .i64 0, .int .i64 0] [(0, 2, (.t 15)), (2, 2, (.t 23))], none⟩,
⟨some 25, .call .pur 224 [(.t 24)], none⟩,
⟨some 7, .alloc [.int .i64 0, .int .u64 0], none⟩,
⟨none, .store 2 (.t 7) (.t 25), none⟩] [3, 4, 7])
(.seq
(.seq
(.region none [
⟨some 26, .load (some 2) (.t 7), none⟩,
⟨some 27, .build [.int .i64 0, .int .u64 0] [], none⟩,
⟨some 28, .eqc 2 true (.t 26) (.t 27), none⟩] [3, 4, 7, 28])
(.cond (.t 28)
(.seq
(.seq
(.region none [
⟨some 29, .fadr 0 (.t 7), none⟩,
⟨some 30, .load none (.t 29), none⟩,
⟨some 31, .bin .lss (.t 30) (.c (.int .i64 0)), none⟩] [31])
(.cond (.t 31)
(.seq
(.region none [
⟨some 6, .mov (.c (.int .i64 (-1))), none⟩] [6])
.ret)
.skip))
(.seq
(.region none [
⟨some 6, .mov (.c (.int .i64 1)), none⟩] [6])
.ret))
.skip))
(.seq
(.region (some [0, 1, 0, 4, 15, 0, 32, 0, 128, 511, 1023, 2047, 4095]) [
⟨some 32, .fadr 2 (.t 3), none⟩,
⟨some 33, .load none (.t 32), none⟩,
⟨some 34, .fadr 2 (.t 4), none⟩,
⟨some 35, .load none (.t 34), none⟩,
⟨some 36, .call .pur 131 [(.t 33), (.t 35)], none⟩,
⟨some 37, .fadr 0 (.t 4), none⟩,
⟨some 38, .load none (.t 37), none⟩,
⟨some 39, .fadr 0 (.t 3), none⟩,
⟨some 40, .load none (.t 39), none⟩,
⟨some 41, .call .pur 201 [(.t 38), (.t 40)], none⟩,
⟨some 42, .mkrow 1 2 [.int .i64 0] [(0, (.t 36)), (1, (.t 41))], none⟩,
⟨some 43, .call .pur 200 [(.t 42)], none⟩,
⟨some 6, .mov (.t 43), none⟩] [6])
.ret)))),
[.tmp 6]⟩

theorem x192_ok : chkFunc Go.Proofs.Tryz.prog (fun _ => true) x192 192 = true := by decide +kernel

/-- peloton/pelotonref06.Begin -/
def x193 : XFunc := ⟨1,
(.seq
(.region none [
⟨some 2, .alloc [.sl 1 true [], .sl 1 true [], .sl 1 true []], none⟩] [0, 2])
(.seq
(.region (some [0, 1, 0, 4, 15, 0, 63]) [
⟨some 5, .mov (.t 0), none⟩,
⟨some 6, .mks 1 [.int .i64 0] (.t 5) (.t 5), none⟩,
⟨some 7, .mov (.t 0), none⟩,
⟨some 8, .mks 1 [.bool false] (.t 7) (.t 7), none⟩,
⟨some 9, .build [.sl 1 true [], .sl 1 true [], .sl 1 true []] [(0, 1, (.t 6)), (1, 1, (.t 8))], none⟩,
⟨some 3, .alloc [.sl 1 true [], .sl 1 true [], .sl 1 true []], none⟩,
⟨none, .store 3 (.t 3) (.t 9), none⟩] [0, 2, 3])
(.seq
(.seq
(.region none [
⟨some 10, .mov (.t 0), none⟩,
⟨some 11, .bin .sub (.t 10) (.c (.int .i64 1)), none⟩,
⟨some 4, .mov (.t 11), none⟩] [2, 3, 4])
(.block 0
(.loop [(2, none), (3, none), (4, none)]
(.seq
(.seq
(.region none [
⟨some 12, .mov (.t 4), none⟩,
⟨some 13, .bin .geq (.t 12) (.c (.int .i64 0)), none⟩] [2, 3, 4, 13])
(.cond (.t 13)
.skip
(.exit 0)))
(.seq
(.block 1
(.region none [
⟨some 16, .fadr 2 (.t 3), none⟩,
⟨some 17, .load none (.t 16), none⟩,
⟨some 18, .mov (.t 4), none⟩,
⟨some 19, .mkrow 1 1 [.int .i64 0] [(0, (.t 18))], none⟩,
⟨some 20, .append 1 (.t 17) (.t 19), none⟩,
⟨some 21, .fadr 2 (.t 3), none⟩,
⟨none, .store 1 (.t 21) (.t 20), none⟩] [2, 3, 4]))
(.region none [
⟨some 14, .mov (.t 4), none⟩,
⟨some 15, .bin .sub (.t 14) (.c (.int .i64 1)), none⟩,
⟨some 4, .mov (.t 15), none⟩] [2, 3, 4]))))))
(.seq
(.region none [
⟨some 22, .load (some 3) (.t 3), none⟩,
⟨none, .store 3 (.t 2) (.t 22), none⟩] [2])
.ret)))),
[.cell 2 (some 3)]⟩

theorem x193_ok : chkFunc Go.Proofs.Tryz.prog (fun _ => true) x193 193 = true := by decide +kernel

/-- peloton/pelotonref01.Plus -/
def x194 : XFunc := ⟨2,
(.seq
(.region none [
⟨some 2, .box (.t 0), none⟩,
⟨some 3, .box (.t 1), none⟩,
⟨some 4, .alloc [.bool false, .int .u64 0, .int .u64 0], none⟩] [2, 3, 4])
(.seq
(.seq
(.region none [
⟨some 8, .fadr 0 (.t 2), none⟩,
⟨some 9, .load none (.t 8), none⟩,
⟨some 10, .fadr 0 (.t 3), none⟩,
⟨some 11, .load none (.t 10), none⟩,
⟨some 12, .binb false (.t 9) (.t 11), none⟩] [2, 3, 4, 12])
(.cond (.t 12)
(.seq
(.region none [
⟨some 13, .fadr 0 (.t 2), none⟩,
⟨some 14, .load none (.t 13), none⟩,
⟨some 15, .fadr 1 (.t 2), none⟩,
⟨some 16, .load none (.t 15), none⟩,
⟨some 17, .fadr 1 (.t 3), none⟩,
⟨some 18, .load none (.t 17), none⟩,
⟨some 19, .bin .add (.t 16) (.t 18), none⟩,
⟨some 20, .fadr 2 (.t 2), none⟩,
⟨some 21, .load none (.t 20), none⟩,
⟨some 22, .fadr 2 (.t 3), none⟩,
⟨some 23, .load none (.t 22), none⟩,
⟨some 24, .bin .add (.t 21) (.t 23), none⟩,
⟨some 25, .build [.bool false, .int .u64 0, .int .u64 0] [(0, 1, (.t 14)), (1, 1, (.t 19)), (2, 1, (.t 24))], none⟩,
⟨some 5, .alloc [.bool false, .int .u64 0, .int .u64 0], none⟩,
⟨none, .store 3 (.t 5) (.t 25), none⟩] [2, 4, 5])
(.seq
(.seq
(.region none [
⟨some 26, .fadr 2 (.t 5), none⟩,
⟨some 27, .load none (.t 26), none⟩,
⟨some 28, .fadr 2 (.t 2), none⟩,
⟨some 29, .load none (.t 28), none⟩,
⟨some 30, .bin .lss (.t 27) (.t 29), none⟩] [4, 5, 30])
(.cond (.t 30)
(.region none [
⟨some 31, .fadr 1 (.t 5), none⟩,
⟨some 32, .load none (.t 31), none⟩,
⟨some 33, .bin .add (.t 32) (.c (.int .u64 1)), none⟩,
⟨some 34, .fadr 1 (.t 5), none⟩,
⟨none, .store 1 (.t 34) (.t 33), none⟩] [4, 5])
.skip))
(.seq
(.region none [
⟨some 35, .load (some 3) (.t 5), none⟩,
⟨none, .store 3 (.t 4) (.t 35), none⟩] [4])
.ret)))
.skip))
(.seq
(.seq
(.region none [
⟨some 36, .load (some 3) (.t 2), none⟩,
⟨some 37, .load (some 3) (.t 3), none⟩,
⟨some 38, .call .pur 84 [(.t 36), (.t 37)], none⟩,
⟨some 39, .bin .geq (.t 38) (.c (.int .i64 0)), none⟩] [2, 3, 4, 39])
(.cond (.t 39)
(.seq
(.region none [
⟨some 40, .load (some 3) (.t 2), none⟩,
⟨some 41, .load (some 3) (.t 3), none⟩,
⟨some 42, .call .pur 225 [(.t 40), (.t 41)], none⟩,
⟨some 6, .alloc [.bool false, .int .u64 0, .int .u64 0], none⟩,
⟨none, .store 3 (.t 6) (.t 42), none⟩] [2, 4, 6])
(.seq
(.region none [
⟨some 43, .fadr 0 (.t 2), none⟩,
⟨some 44, .load none (.t 43), none⟩,
⟨some 45, .mov (.t 44), none⟩,
⟨some 46, .fadr 1 (.t 6), (some (45, true))⟩,
⟨some 47, .load none (.t 46), (some (45, true))⟩,
⟨some 48, .bin .gtr (.t 47) (.c (.int .u64 0)), (some (45, true))⟩,
⟨some 49, .mov (.t 48), (some (45, true))⟩,
⟨some 50, .fadr 2 (.t 6), (some (49, false))⟩,
⟨some 51, .load none (.t 50), (some (49, false))⟩,
⟨some 52, .bin .gtr (.t 51) (.c (.int .u64 0)), (some (49, false))⟩,
⟨some 53, .pick (.t 49) (.c (.bool true)) (.t 52), (some (45, true))⟩,
⟨some 54, .pick (.t 45) (.t 53) (.c (.bool false)), none⟩,
⟨some 55, .fadr 0 (.t 6), none⟩,
⟨none, .store 1 (.t 55) (.t 54), none⟩] [4, 6])
(.seq
(.region none [
⟨some 56, .load (some 3) (.t 6), none⟩,
⟨none, .store 3 (.t 4) (.t 56), none⟩] [4])
.ret)))
.skip))
(.seq
(.region none [
⟨some 57, .load (some 3) (.t 3), none⟩,
⟨some 58, .load (some 3) (.t 2), none⟩,
⟨some 59, .call .pur 225 [(.t 57), (.t 58)], none⟩,
⟨some 7, .alloc [.bool false, .int .u64 0, .int .u64 0], none⟩,
⟨none, .store 3 (.t 7) (.t 59), none⟩] [3, 4, 7])
(.seq
(.region none [
⟨some 60, .fadr 0 (.t 3), none⟩,
⟨some 61, .load none (.t 60), none⟩,
⟨some 62, .fadr 0 (.t 7), none⟩,
⟨none, .store 1 (.t 62) (.t 61), none⟩] [4, 7])
(.seq
(.region none [
⟨some 63, .load (some 3) (.t 7), none⟩,
⟨none, .store 3 (.t 4) (.t 63), none⟩] [4])
.ret)))))),
[.cell 4 (some 3)]⟩

theorem x194_ok : chkFunc Go.Proofs.Tryz.prog (fun _ => true) x194 194 = true := by decide +kernel

/-- peloton/ratio.Make -/
def x198 : XFunc := ⟨2,
(.seq
(.region none [
⟨some 4, .alloc [.int .i64 0, .int .i64 0], none⟩,
⟨some 5, .mov (.c (.int .i64 0)), none⟩] [0, 1, 4])
(.seq
(.seq
(.region none [
⟨some 7, .mov (.t 1), none⟩,
⟨some 8, .bin .eql (.t 7) (.c (.int .i64 0)), none⟩] [0, 1, 4, 8])
(.cond (.t 8)
(.seq
(.region none [
⟨some 9, .build [.int .i64 0, .int .i64 0] [], none⟩,
⟨none, .store 2 (.t 4) (.t 9), none⟩,
⟨some 5, .mov (.c (.int .i64 26)), none⟩] [4, 5])
.ret)
.skip))
(.seq
(.region none [
⟨some 10, .mov (.t 0), none⟩,
⟨some 11, .call .pur 129 [(.t 10)], none⟩,
⟨some 12, .mov (.t 1), none⟩,
⟨some 13, .call .pur 129 [(.t 12)], none⟩,
⟨some 14, .call .pur 128 [(.t 11), (.t 13)], none⟩,
⟨some 6, .mov (.t 14), none⟩] [0, 1, 4, 6])
(.seq
(.region (some [0, 1, 0, 4, 15, 0, 32, 0, 224, 511, 0, 1120, 0, 7264, 16383, 32767, 32767, 131071, 262143]) [
⟨some 15, .mov (.t 0), none⟩,
⟨some 16, .bin .lss (.t 15) (.c (.int .i64 0)), none⟩,
⟨some 17, .mov (.t 1), none⟩,
⟨some 18, .bin .lss (.t 17) (.c (.int .i64 0)), none⟩,
⟨some 19, .binb true (.t 16) (.t 18), none⟩,
⟨some 20, .mov (.t 0), none⟩,
⟨some 21, .call .pur 129 [(.t 20)], none⟩,
⟨some 22, .mov (.t 6), none⟩,
⟨some 23, .bin .quo (.t 21) (.t 22), none⟩,
⟨some 24, .build [.bool false, .int .u64 0, .int .u64 0] [(0, 1, (.t 19)), (1, 1, (.c (.int .u64 0))), (2, 1, (.t 23))], none⟩,
⟨some 25, .mov (.t 1), none⟩,
⟨some 26, .call .pur 129 [(.t 25)], none⟩,
⟨some 27, .mov (.t 6), none⟩,
⟨some 28, .bin .quo (.t 26) (.t 27), none⟩,
⟨some 29, .call .pur 236 [(.t 24), (.c (.int .u64 0)), (.t 28)], none⟩,
⟨some 30, .ext 0 (.t 29), none⟩,
⟨some 31, .ext 1 (.t 29), none⟩,
⟨none, .store 2 (.t 4) (.t 30), none⟩,
⟨some 5, .mov (.t 31), none⟩] [4, 5])
.ret)))),
[.cell 4 (some 2), .tmp 5]⟩

theorem x198_ok : chkFunc Go.Proofs.Tryz.prog (fun _ => true) x198 198 = true := by decide +kernel

/-- cmp.Or[int] -/
def x200 : XFunc := ⟨1,
(.seq
(.region none [
⟨some 2, .mov (.c (.int .i64 0)), none⟩] [0])
(.seq
(.region none [
⟨some 3, .mov (.c (.int .i64 0)), none⟩] [0, 3])
(.seq
(.seq
(.region none [
⟨some 6, .mov (.t 0), none⟩,
⟨some 7, .len (.t 6), none⟩,
⟨some 8, .mov (.c (.int .i64 0)), none⟩] [3, 6, 7, 8])
(.block 0
(.loop [(3, none), (6, none), (7, none), (8, none)]
(.seq
(.region none [
⟨some 9, .bin .lss (.t 8) (.t 7), none⟩] [3, 6, 7, 8, 9])
(.seq
(.cond (.t 9)
.skip
(.exit 0))
(.seq
(.block 1
(.seq
(.region none [
⟨some 10, .iadr 1 (.t 6) (.t 8), none⟩,
⟨some 11, .load none (.t 10), none⟩,
⟨some 5, .mov (.t 11), none⟩] [3, 5, 6, 7, 8])
(.seq
(.region none [
⟨some 12, .mov (.t 5), none⟩,
⟨some 13, .mov (.t 3), none⟩,
⟨some 14, .bin .neq (.t 12) (.t 13), none⟩] [3, 5, 6, 7, 8, 14])
(.cond (.t 14)
(.seq
(.region none [
⟨some 15, .mov (.t 5), none⟩,
⟨some 2, .mov (.t 15), none⟩] [2])
.ret)
.skip))))
(.region none [
⟨some 16, .bin .add (.t 8) (.c (.int .i64 1)), none⟩,
⟨some 8, .mov (.t 16), none⟩] [3, 6, 7, 8])))))))
(.seq
(.region none [
⟨some 17, .mov (.t 3), none⟩,
⟨some 2, .mov (.t 17), none⟩] [2])
.ret)))),
[.tmp 2]⟩

theorem x200_ok : chkFunc Go.Proofs.Tryz.prog (fun _ => true) x200 200 = true := by decide +kernel

/-- cmp.Compare[int] -/
def x201 : XFunc := ⟨2,
(.seq
(.region none [
⟨some 4, .mov (.c (.int .i64 0)), none⟩] [0, 1])
(.seq
(.region none [
⟨some 7, .mov (.t 0), none⟩,
⟨some 8, .call .pur 245 [(.t 7)], none⟩,
⟨some 5, .mov (.t 8), none⟩] [0, 1, 5])
(.seq
(.region none [
⟨some 9, .mov (.t 1), none⟩,
⟨some 10, .call .pur 245 [(.t 9)], none⟩,
⟨some 6, .mov (.t 10), none⟩] [0, 1, 5, 6])
(.seq
(.seq
(.region none [
⟨some 11, .mov (.t 5), none⟩] [0, 1, 6, 11])
(.cond (.t 11)
(.seq
(.seq
(.region none [
⟨some 12, .mov (.t 6), none⟩] [12])
(.cond (.t 12)
(.seq
(.region none [
⟨some 4, .mov (.c (.int .i64 0)), none⟩] [4])
.ret)
.skip))
(.seq
(.region none [
⟨some 4, .mov (.c (.int .i64 (-1))), none⟩] [4])
.ret))
.skip))
(.seq
(.seq
(.region none [
⟨some 13, .mov (.t 6), none⟩] [0, 1, 13])
(.cond (.t 13)
(.seq
(.region none [
⟨some 4, .mov (.c (.int .i64 1)), none⟩] [4])
.ret)
.skip))
(.seq
(.seq
(.region none [
⟨some 14, .mov (.t 0), none⟩,
⟨some 15, .mov (.t 1), none⟩,
⟨some 16, .bin .lss (.t 14) (.t 15), none⟩] [0, 1, 16])
(.cond (.t 16)
(.seq
(.region none [
⟨some 4, .mov (.c (.int .i64 (-1))), none⟩] [4])
.ret)
.skip))
(.seq
(.seq
(.region none [
⟨some 17, .mov (.t 0), none⟩,
⟨some 18, .mov (.t 1), none⟩,
⟨some 19, .bin .gtr (.t 17) (.t 18), none⟩] [19])
(.cond (.t 19)
(.seq
(.region none [
⟨some 4, .mov (.c (.int .i64 1)), none⟩] [4])
.ret)
.skip))
(.seq
(.region none [
⟨some 4, .mov (.c (.int .i64 0)), none⟩] [4])
.ret)))))))),
[.tmp 4]⟩

theorem x201_ok : chkFunc Go.Proofs.Tryz.prog (fun _ => true) x201 201 = true := by decide +kernel

/-- slices.ContainsFunc[[]int,int] -/
def x202 : XFunc := ⟨2,
(.seq
(.region none [
⟨some 4, .mov (.c (.bool false)), none⟩] [0, 1])
(.seq
(.region none [
⟨some 5, .mov (.t 0), none⟩,
⟨some 6, .mov (.t 1), none⟩,
⟨some 7, .call .shr 246 [(.t 5), (.t 6)], none⟩,
⟨some 8, .bin .geq (.t 7) (.c (.int .i64 0)), none⟩,
⟨some 4, .mov (.t 8), none⟩] [4])
.ret)),
[.tmp 4]⟩

theorem x202_ok : chkFunc Go.Proofs.Tryz.prog (fun _ => true) x202 202 = true := by decide +kernel

/-- peloton/slot.Check$1 -/
def x203 : XFunc := ⟨3,
(.seq
(.region none [
⟨some 4, .mov (.c (.bool false)), none⟩] [0, 1, 2])
(.seq
(.seq
(.region none [
⟨some 5, .mov (.t 0), none⟩,
⟨some 6, .bin .lss (.t 5) (.c (.int .i64 0)), none⟩,
⟨some 7, .mov (.t 6), none⟩,
⟨some 8, .mov (.t 0), (some (7, false))⟩,
⟨some 9, .load none (.t 1), (some (7, false))⟩,
⟨some 10, .bin .geq (.t 8) (.t 9), (some (7, false))⟩,
⟨some 11, .pick (.t 7) (.c (.bool true)) (.t 10), none⟩,
⟨some 12, .mov (.t 11), none⟩,
⟨some 13, .load none (.t 2), (some (12, false))⟩,
⟨some 14, .mov (.t 0), (some (12, false))⟩,
⟨some 15, .iadr 1 (.t 13) (.t 14), (some (12, false))⟩,
⟨some 16, .load none (.t 15), (some (12, false))⟩,
⟨some 17, .pick (.t 12) (.c (.bool true)) (.t 16), none⟩] [0, 2, 17])
(.cond (.t 17)
(.seq
(.region none [
⟨some 4, .mov (.c (.bool true)), none⟩] [4])
.ret)
.skip))
(.seq
(.region none [
⟨some 18, .load none (.t 2), none⟩,
⟨some 19, .mov (.t 0), none⟩,
⟨some 20, .iadr 1 (.t 18) (.t 19), none⟩,
⟨none, .store 1 (.t 20) (.c (.bool true)), none⟩] [])
(.seq
(.region none [
⟨some 4, .mov (.c (.bool false)), none⟩] [4])
.ret)))),
[.tmp 4]⟩

theorem x203_ok : chkFunc Go.Proofs.Tryz.prog (fun _ => true) x203 203 = true := by decide +kernel

/-- slices.Contains[[]bool,bool] -/
def x204 : XFunc := ⟨2,
(.seq
(.region none [
⟨some 4, .mov (.c (.bool false)), none⟩] [0, 1])
(.seq
(.region none [
⟨some 5, .mov (.t 0), none⟩,
⟨some 6, .mov (.t 1), none⟩,
⟨some 7, .call .pur 247 [(.t 5), (.t 6)], none⟩,
⟨some 8, .bin .geq (.t 7) (.c (.int .i64 0)), none⟩,
⟨some 4, .mov (.t 8), none⟩] [4])
.ret)),
[.tmp 4]⟩

theorem x204_ok : chkFunc Go.Proofs.Tryz.prog (fun _ => true) x204 204 = true := by decide +kernel

/-- slices.BinarySearchFunc[[]peloton/api.Point,peloton/api.Point,int] -/
def x205 : XFunc := ⟨3,
(.seq
(.region none [
⟨some 6, .mov (.c (.int .i64 0)), none⟩,
⟨some 7, .mov (.c (.bool false)), none⟩] [0, 1, 2])
(.seq
(.region none [
⟨some 12, .mov (.t 0), none⟩,
⟨some 13, .len (.t 12), none⟩,
⟨some 8, .mov (.t 13), none⟩] [0, 1, 2, 8])
(.seq
(.region none [
⟨some 14, .mov (.t 8), none⟩,
⟨some 9, .mov (.c (.int .i64 0)), none⟩,
⟨some 10, .mov (.t 14), none⟩] [0, 1, 2, 8, 9, 10])
(.seq
(.block 0
(.loop [(0, none), (1, none), (2, none), (8, none), (9, none), (10, none)]
(.seq
(.seq
(.region none [
⟨some 15, .mov (.t 9), none⟩,
⟨some 16, .mov (.t 10), none⟩,
⟨some 17, .bin .lss (.t 15) (.t 16), none⟩] [0, 1, 2, 8, 9, 10, 17])
(.cond (.t 17)
.skip
(.exit 0)))
(.block 1
(.seq
(.region none [
⟨some 18, .mov (.t 9), none⟩,
⟨some 19, .mov (.t 10), none⟩,
⟨some 20, .bin .add (.t 18) (.t 19), none⟩,
⟨some 21, .conv .u64 (.t 20), none⟩,
⟨some 22, .bin .shr (.t 21) (.c (.int .u64 1)), none⟩,
⟨some 23, .conv .i64 (.t 22), none⟩,
⟨some 11, .mov (.t 23), none⟩] [0, 1, 2, 8, 9, 10, 11])
(.seq
(.region none [
⟨some 24, .mov (.t 2), none⟩,
⟨some 25, .mov (.t 0), none⟩,
⟨some 26, .mov (.t 11), none⟩,
⟨some 27, .iadr 3 (.t 25) (.t 26), none⟩,
⟨some 28, .load (some 3) (.t 27), none⟩,
⟨some 29, .mov (.t 1), none⟩,
⟨some 30, .callv (.t 24) [(.t 28), (.t 29)], none⟩,
⟨some 31, .bin .lss (.t 30) (.c (.int .i64 0)), none⟩] [0, 1, 2, 8, 9, 10, 11, 31])
(.cond (.t 31)
(.region none [
⟨some 32, .mov (.t 11), none⟩,
⟨some 33, .bin .add (.t 32) (.c (.int .i64 1)), none⟩,
⟨some 9, .mov (.t 33), none⟩] [0, 1, 2, 8, 9, 10])
(.region none [
⟨some 34, .mov (.t 11), none⟩,
⟨some 10, .mov (.t 34), none⟩] [0, 1, 2, 8, 9, 10]))))))))
(.seq
(.region none [
⟨some 35, .mov (.t 9), none⟩,
⟨some 36, .mov (.t 9), none⟩,
⟨some 37, .mov (.t 8), none⟩,
⟨some 38, .bin .lss (.t 36) (.t 37), none⟩,
⟨some 39, .mov (.t 38), none⟩,
⟨some 40, .mov (.t 2), (some (39, true))⟩,
⟨some 41, .mov (.t 0), (some (39, true))⟩,
⟨some 42, .mov (.t 9), (some (39, true))⟩,
⟨some 43, .iadr 3 (.t 41) (.t 42), (some (39, true))⟩,
⟨some 44, .load (some 3) (.t 43), (some (39, true))⟩,
⟨some 45, .mov (.t 1), (some (39, true))⟩,
⟨some 46, .callv (.t 40) [(.t 44), (.t 45)], (some (39, true))⟩,
⟨some 47, .bin .eql (.t 46) (.c (.int .i64 0)), (some (39, true))⟩,
⟨some 48, .pick (.t 39) (.t 47) (.c (.bool false)), none⟩,
⟨some 6, .mov (.t 35), none⟩,
⟨some 7, .mov (.t 48), none⟩] [6, 7])
.ret))))),
[.tmp 6, .tmp 7]⟩

theorem x205_ok : chkFunc Go.Proofs.Tryz.prog (fun _ => true) x205 205 = true := by decide +kernel

/-- peloton/clock.point$1 -/
def x206 : XFunc := ⟨2,
(.seq
(.region none [
⟨some 2, .box (.t 0), none⟩,
⟨some 4, .mov (.c (.int .i64 0)), none⟩] [1, 2])
(.seq
(.region none [
⟨some 5, .fadr 0 (.t 2), none⟩,
⟨some 6, .load none (.t 5), none⟩,
⟨some 7, .mov (.t 1), none⟩,
⟨some 8, .call .pur 201 [(.t 6), (.t 7)], none⟩,
⟨some 4, .mov (.t 8), none⟩] [4])
.ret)),
[.tmp 4]⟩

theorem x206_ok : chkFunc Go.Proofs.Tryz.prog (fun _ => true) x206 206 = true := by decide +kernel

/-- peloton/field.find$1 -/
def x207 : XFunc := ⟨2,
(.seq
(.region none [
⟨some 2, .box (.t 0), none⟩,
⟨some 4, .mov (.c (.int .i64 0)), none⟩] [1, 2])
(.seq
(.region none [
⟨some 5, .fadr 0 (.t 2), none⟩,
⟨some 6, .load none (.t 5), none⟩,
⟨some 7, .mov (.t 1), none⟩,
⟨some 8, .call .pur 201 [(.t 6), (.t 7)], none⟩,
⟨some 4, .mov (.t 8), none⟩] [4])
.ret)),
[.tmp 4]⟩

theorem x207_ok : chkFunc Go.Proofs.Tryz.prog (fun _ => true) x207 207 = true := by decide +kernel

/-- peloton/cert.Remove -/
def x208 : XFunc := ⟨2,
(.seq
(.region none [
⟨some 2, .box (.t 0), none⟩,
⟨some 4, .alloc [.int .i64 0, .sl 3 true []], none⟩,
⟨some 5, .alloc [.int .i64 0, .int .i64 0], none⟩,
⟨some 6, .mov (.c (.int .i64 0)), none⟩] [1, 2, 4, 5])
(.seq
(.region none [
⟨some 10, .load (some 2) (.t 2), none⟩,
⟨some 11, .mov (.t 1), none⟩,
⟨some 12, .call .pur 248 [(.t 10), (.t 11)], none⟩,
⟨some 9, .mov (.t 12), none⟩,
⟨some 13, .ext 0 (.t 9), none⟩,
⟨some 14, .ext 1 (.t 9), none⟩,
⟨some 7, .mov (.t 13), none⟩,
⟨some 8, .mov (.t 14), none⟩] [2, 4, 5, 7, 8])
(.seq
(.seq
(.region none [
⟨some 15, .mov (.t 8), none⟩,
⟨some 16, .bin .neq (.t 15) (.c (.int .i64 0)), none⟩] [2, 4, 5, 7, 8, 16])
(.cond (.t 16)
(.seq
(.region none [
⟨some 17, .build [.int .i64 0, .sl 3 true []] [], none⟩,
⟨some 18, .build [.int .i64 0, .int .i64 0] [], none⟩,
⟨some 19, .mov (.t 8), none⟩,
⟨none, .store 2 (.t 4) (.t 17), none⟩,
⟨none, .store 2 (.t 5) (.t 18), none⟩,
⟨some 6, .mov (.t 19), none⟩] [4, 5, 6])
.ret)
.skip))
(.seq
(.region (some [0, 1, 0, 4, 12, 0, 0, 64, 252, 511, 0, 1024, 0, 7168, 15360, 31744, 1023, 131071, 262143]) [
⟨some 20, .fadr 0 (.t 2), none⟩,
⟨some 21, .load none (.t 20), none⟩,
⟨some 22, .fadr 1 (.t 2), none⟩,
⟨some 23, .load none (.t 22), none⟩,
⟨some 24, .call .pur 113 [(.t 23)], none⟩,
⟨some 25, .mov (.t 7), none⟩,
⟨some 26, .mov (.t 7), none⟩,
⟨some 27, .bin .add (.t 26) (.c (.int .i64 1)), none⟩,
⟨some 28, .call .fp 249 [(.t 24), (.t 25), (.t 27)], none⟩,
⟨some 29, .build [.int .i64 0, .sl 3 true []] [(0, 1, (.t 21)), (1, 1, (.t 28))], none⟩,
⟨some 30, .fadr 1 (.t 2), none⟩,
⟨some 31, .load none (.t 30), none⟩,
⟨some 32, .mov (.t 7), none⟩,
⟨some 33, .iadr 3 (.t 31) (.t 32), none⟩,
⟨some 34, .fadr 1 (.t 33), none⟩,
⟨some 35, .load (some 2) (.t 34), none⟩,
⟨none, .store 2 (.t 4) (.t 29), none⟩,
⟨none, .store 2 (.t 5) (.t 35), none⟩,
⟨some 6, .mov (.c (.int .i64 0)), none⟩] [4, 5, 6])
.ret)))),
[.cell 4 (some 2), .cell 5 (some 2), .tmp 6]⟩

theorem x208_ok : chkFunc Go.Proofs.Tryz.prog (fun _ => true) x208 208 = true := by decide +kernel

/-- slices.Delete[[]peloton/api.Due,peloton/api.Due] -/
def x209 : XFunc := ⟨3,
(.seq
(.region none [
⟨some 6, .mov (.c (.sl 3 true [])), none⟩] [0, 1, 2])
(.seq
(.region none [
⟨some 8, .mov (.t 0), none⟩,
⟨some 9, .mov (.t 1), none⟩,
⟨some 10, .mov (.t 2), none⟩,
⟨some 11, .mov (.t 0), none⟩,
⟨some 12, .len (.t 11), none⟩,
⟨some 13, .slc 3 (.t 8) (some (.t 9)) (some (.t 10)) (some (.t 12)), none⟩] [0, 1, 2])
(.seq
(.seq
(.region none [
⟨some 14, .mov (.t 1), none⟩,
⟨some 15, .mov (.t 2), none⟩,
⟨some 16, .bin .eql (.t 14) (.t 15), none⟩] [0, 1, 2, 16])
(.cond (.t 16)
(.seq
(.region none [
⟨some 17, .mov (.t 0), none⟩,
⟨some 6, .mov (.t 17), none⟩] [6])
.ret)
.skip))
(.seq
(.region none [
⟨some 18, .mov (.t 0), none⟩,
⟨some 19, .len (.t 18), none⟩,
⟨some 7, .mov (.t 19), none⟩] [0, 1, 2, 7])
(.seq
(.region (some [0, 0, 3, 0, 0, 24, 63, 127]) [
⟨some 20, .mov (.t 0), none⟩,
⟨some 21, .mov (.t 1), none⟩,
⟨some 22, .slc 3 (.t 20) none (some (.t 21)) none, none⟩,
⟨some 23, .mov (.t 0), none⟩,
⟨some 24, .mov (.t 2), none⟩,
⟨some 25, .slc 3 (.t 23) (some (.t 24)) none none, none⟩,
⟨some 26, .append 3 (.t 22) (.t 25), none⟩,
⟨some 0, .mov (.t 26), none⟩] [0, 7])
(.seq
(.region none [
⟨some 27, .mov (.t 0), none⟩,
⟨some 28, .mov (.t 0), none⟩,
⟨some 29, .len (.t 28), none⟩,
⟨some 30, .mov (.t 7), none⟩,
⟨some 31, .slc 3 (.t 27) (some (.t 29)) (some (.t 30)) none, none⟩,
⟨none, .clear 3 [.int .i64 0, .int .i64 0, .int .i64 0] (.t 31), none⟩] [0])
(.seq
(.region none [
⟨some 32, .mov (.t 0), none⟩,
⟨some 6, .mov (.t 32), none⟩] [6])
.ret))))))),
[.tmp 6]⟩

theorem x209_ok : chkFunc Go.Proofs.Tryz.prog (fun _ => true) x209 209 = true := by decide +kernel

/-- slices.BinarySearchFunc[[]peloton/api.Due,peloton/api.Due,int] -/
def x210 : XFunc := ⟨3,
(.seq
(.region none [
⟨some 6, .mov (.c (.int .i64 0)), none⟩,
⟨some 7, .mov (.c (.bool false)), none⟩] [0, 1, 2])
(.seq
(.region none [
⟨some 12, .mov (.t 0), none⟩,
⟨some 13, .len (.t 12), none⟩,
⟨some 8, .mov (.t 13), none⟩] [0, 1, 2, 8])
(.seq
(.region none [
⟨some 14, .mov (.t 8), none⟩,
⟨some 9, .mov (.c (.int .i64 0)), none⟩,
⟨some 10, .mov (.t 14), none⟩] [0, 1, 2, 8, 9, 10])
(.seq
(.block 0
(.loop [(0, none), (1, none), (2, none), (8, none), (9, none), (10, none)]
(.seq
(.seq
(.region none [
⟨some 15, .mov (.t 9), none⟩,
⟨some 16, .mov (.t 10), none⟩,
⟨some 17, .bin .lss (.t 15) (.t 16), none⟩] [0, 1, 2, 8, 9, 10, 17])
(.cond (.t 17)
.skip
(.exit 0)))
(.block 1
(.seq
(.region none [
⟨some 18, .mov (.t 9), none⟩,
⟨some 19, .mov (.t 10), none⟩,
⟨some 20, .bin .add (.t 18) (.t 19), none⟩,
⟨some 21, .conv .u64 (.t 20), none⟩,
⟨some 22, .bin .shr (.t 21) (.c (.int .u64 1)), none⟩,
⟨some 23, .conv .i64 (.t 22), none⟩,
⟨some 11, .mov (.t 23), none⟩] [0, 1, 2, 8, 9, 10, 11])
(.seq
(.region none [
⟨some 24, .mov (.t 2), none⟩,
⟨some 25, .mov (.t 0), none⟩,
⟨some 26, .mov (.t 11), none⟩,
⟨some 27, .iadr 3 (.t 25) (.t 26), none⟩,
⟨some 28, .load (some 3) (.t 27), none⟩,
⟨some 29, .mov (.t 1), none⟩,
⟨some 30, .callv (.t 24) [(.t 28), (.t 29)], none⟩,
⟨some 31, .bin .lss (.t 30) (.c (.int .i64 0)), none⟩] [0, 1, 2, 8, 9, 10, 11, 31])
(.cond (.t 31)
(.region none [
⟨some 32, .mov (.t 11), none⟩,
⟨some 33, .bin .add (.t 32) (.c (.int .i64 1)), none⟩,
⟨some 9, .mov (.t 33), none⟩] [0, 1, 2, 8, 9, 10])
(.region none [
⟨some 34, .mov (.t 11), none⟩,
⟨some 10, .mov (.t 34), none⟩] [0, 1, 2, 8, 9, 10]))))))))
(.seq
(.region none [
⟨some 35, .mov (.t 9), none⟩,
⟨some 36, .mov (.t 9), none⟩,
⟨some 37, .mov (.t 8), none⟩,
⟨some 38, .bin .lss (.t 36) (.t 37), none⟩,
⟨some 39, .mov (.t 38), none⟩,
⟨some 40, .mov (.t 2), (some (39, true))⟩,
⟨some 41, .mov (.t 0), (some (39, true))⟩,
⟨some 42, .mov (.t 9), (some (39, true))⟩,
⟨some 43, .iadr 3 (.t 41) (.t 42), (some (39, true))⟩,
⟨some 44, .load (some 3) (.t 43), (some (39, true))⟩,
⟨some 45, .mov (.t 1), (some (39, true))⟩,
⟨some 46, .callv (.t 40) [(.t 44), (.t 45)], (some (39, true))⟩,
⟨some 47, .bin .eql (.t 46) (.c (.int .i64 0)), (some (39, true))⟩,
⟨some 48, .pick (.t 39) (.t 47) (.c (.bool false)), none⟩,
⟨some 6, .mov (.t 35), none⟩,
⟨some 7, .mov (.t 48), none⟩] [6, 7])
.ret))))),
[.tmp 6, .tmp 7]⟩

theorem x210_ok : chkFunc Go.Proofs.Tryz.prog (fun _ => true) x210 210 = true := by decide +kernel

/-- peloton/clock.place$1 -/
def x211 : XFunc := ⟨2,
(.seq
(.region none [
⟨some 2, .box (.t 0), none⟩,
⟨some 4, .mov (.c (.int .i64 0)), none⟩] [1, 2])
(.seq
(.region none [
⟨some 5, .fadr 0 (.t 2), none⟩,
⟨some 6, .load none (.t 5), none⟩,
⟨some 7, .mov (.t 1), none⟩,
⟨some 8, .call .pur 201 [(.t 6), (.t 7)], none⟩,
⟨some 4, .mov (.t 8), none⟩] [4])
.ret)),
[.tmp 4]⟩

theorem x211_ok : chkFunc Go.Proofs.Tryz.prog (fun _ => true) x211 211 = true := by decide +kernel

/-- peloton/agenda.place -/
def x212 : XFunc := ⟨2,
(.seq
(.region none [
⟨some 2, .box (.t 0), none⟩,
⟨some 3, .box (.t 1), none⟩,
⟨some 4, .mov (.c (.int .i64 0)), none⟩,
⟨some 5, .mov (.c (.int .i64 0)), none⟩] [2, 3])
(.seq
(.seq
(.region none [
⟨some 9, .load (some 5) (.t 2), none⟩,
⟨some 10, .call .pur 101 [(.t 9)], none⟩,
⟨some 6, .mov (.t 10), none⟩] [2, 3, 6])
(.seq
(.region none [
⟨some 11, .mov (.t 6), none⟩,
⟨some 12, .bin .neq (.t 11) (.c (.int .i64 0)), none⟩] [2, 3, 6, 12])
(.cond (.t 12)
(.seq
(.region none [
⟨some 13, .mov (.t 6), none⟩,
⟨some 4, .mov (.c (.int .i64 0)), none⟩,
⟨some 5, .mov (.t 13), none⟩] [4, 5])
.ret)
.skip)))
(.seq
(.seq
(.region none [
⟨some 15, .fadr 0 (.t 2), none⟩,
⟨some 16, .load (some 3) (.t 15), none⟩,
⟨some 17, .load (some 2) (.t 3), none⟩,
⟨some 18, .call .pur 250 [(.t 16), (.t 17)], none⟩,
⟨some 14, .mov (.t 18), none⟩,
⟨some 19, .ext 0 (.t 14), none⟩,
⟨some 20, .ext 1 (.t 14), none⟩,
⟨some 7, .mov (.t 19), none⟩,
⟨some 8, .mov (.t 20), none⟩] [2, 3, 7, 8])
(.seq
(.region none [
⟨some 21, .mov (.t 8), none⟩,
⟨some 22, .bin .neq (.t 21) (.c (.int .i64 0)), none⟩,
⟨some 23, .mov (.t 22), none⟩,
⟨some 24, .mov (.t 7), (some (23, false))⟩,
⟨some 25, .un .not (.t 24), (some (23, false))⟩,
⟨some 26, .pick (.t 23) (.c (.bool true)) (.t 25), none⟩] [2, 3, 26])
(.cond (.t 26)
(.seq
(.region none [
⟨some 4, .mov (.c (.int .i64 0)), none⟩,
⟨some 5, .mov (.c (.int .i64 6)), none⟩] [4, 5])
.ret)
.skip)))
(.seq
(.region none [
⟨some 27, .fadr 4 (.t 2), none⟩,
⟨some 28, .load none (.t 27), none⟩,
⟨some 29, .fadr 0 (.t 3), none⟩,
⟨some 30, .load none (.t 29), none⟩,
⟨some 31, .iadr 1 (.t 28) (.t 30), none⟩,
⟨some 32, .load none (.t 31), none⟩,
⟨some 4, .mov (.t 32), none⟩,
⟨some 5, .mov (.c (.int .i64 0)), none⟩] [4, 5])
.ret)))),
[.tmp 4, .tmp 5]⟩

theorem x212_ok : chkFunc Go.Proofs.Tryz.prog (fun _ => true) x212 212 = true := by decide +kernel

/-- peloton/agenda.twin -/
def x213 : XFunc := ⟨1,
(.seq
(.region none [
⟨some 1, .box (.t 0), none⟩,
⟨some 2, .alloc [.sl 1 true [], .sl 1 true [], .sl 1 true [], .sl 5 true [], .sl 1 true []], none⟩] [1, 2])
(.seq
(.region (some [0, 1, 3, 0, 8, 31, 31, 127, 255, 511]) [
⟨some 3, .fadr 3 (.t 1), none⟩,
⟨some 4, .load none (.t 3), none⟩,
⟨some 5, .call .pur 115 [(.t 4)], none⟩,
⟨some 6, .fadr 4 (.t 1), none⟩,
⟨some 7, .load none (.t 6), none⟩,
⟨some 8, .call .pur 69 [(.t 7)], none⟩,
⟨some 9, .fadr 3 (.t 1), none⟩,
⟨none, .store 1 (.t 9) (.t 5), none⟩,
⟨some 10, .fadr 4 (.t 1), none⟩,
⟨none, .store 1 (.t 10) (.t 8), none⟩] [1, 2])
(.seq
(.region none [
⟨some 11, .load (some 5) (.t 1), none⟩,
⟨none, .store 5 (.t 2) (.t 11), none⟩] [2])
.ret))),
[.cell 2 (some 5)]⟩

theorem x213_ok : chkFunc Go.Proofs.Tryz.prog (fun _ => true) x213 213 = true := by decide +kernel

/-- peloton/agenda.settle -/
def x214 : XFunc := ⟨3,
(.seq
(.region none [
⟨some 3, .box (.t 0), none⟩,
⟨some 5, .box (.t 2), none⟩] [1, 3, 5])
(.seq
(.block 0
(.loop [(1, none), (3, none), (5, none)]
(.seq
(.seq
(.region (some [0, 1, 3, 7, 7, 23, 7, 71, 199, 503, 1015, 2047, 4095, 8191]) [
⟨some 7, .mov (.t 1), none⟩,
⟨some 8, .bin .gtr (.t 7) (.c (.int .i64 0)), none⟩,
⟨some 9, .mov (.t 8), none⟩,
⟨some 10, .load (some 5) (.t 5), (some (9, true))⟩,
⟨some 11, .fadr 3 (.t 3), (some (9, true))⟩,
⟨some 12, .load none (.t 11), (some (9, true))⟩,
⟨some 13, .mov (.t 1), (some (9, true))⟩,
⟨some 14, .bin .sub (.t 13) (.c (.int .i64 1)), (some (9, true))⟩,
⟨some 15, .bin .quo (.t 14) (.c (.int .i64 2)), (some (9, true))⟩,
⟨some 16, .iadr 5 (.t 12) (.t 15), (some (9, true))⟩,
⟨some 17, .load (some 5) (.t 16), (some (9, true))⟩,
⟨some 18, .call .pur 162 [(.t 10), (.t 17)], (some (9, true))⟩,
⟨some 19, .bin .lss (.t 18) (.c (.int .i64 0)), (some (9, true))⟩,
⟨some 20, .pick (.t 9) (.t 19) (.c (.bool false)), none⟩] [1, 3, 5, 20])
(.cond (.t 20)
.skip
(.exit 0)))
(.block 1
(.seq
(.region (some [0, 0, 0, 4, 0, 16, 48, 124, 252, 511]) [
⟨some 21, .load (some 5) (.t 3), none⟩,
⟨some 22, .mov (.t 1), none⟩,
⟨some 23, .fadr 3 (.t 3), none⟩,
⟨some 24, .load none (.t 23), none⟩,
⟨some 25, .mov (.t 1), none⟩,
⟨some 26, .bin .sub (.t 25) (.c (.int .i64 1)), none⟩,
⟨some 27, .bin .quo (.t 26) (.c (.int .i64 2)), none⟩,
⟨some 28, .iadr 5 (.t 24) (.t 27), none⟩,
⟨some 29, .load (some 5) (.t 28), none⟩,
⟨some 30, .call .fp 251 [(.t 21), (.t 22), (.t 29)], none⟩] [1, 3, 5])
(.region none [
⟨some 31, .mov (.t 1), none⟩,
⟨some 32, .bin .sub (.t 31) (.c (.int .i64 1)), none⟩,
⟨some 33, .bin .quo (.t 32) (.c (.int .i64 2)), none⟩,
⟨some 1, .mov (.t 33), none⟩] [1, 3, 5]))))))
(.seq
(.seq
(.region none [
⟨some 34, .mov (.t 1), none⟩,
⟨some 35, .bin .mul (.c (.int .i64 2)) (.t 34), none⟩,
⟨some 36, .bin .add (.t 35) (.c (.int .i64 1)), none⟩,
⟨some 6, .mov (.t 36), none⟩] [1, 3, 5, 6])
(.block 2
(.loop [(1, none), (3, none), (5, none), (6, none)]
(.seq
(.seq
(.region none [
⟨some 37, .mov (.t 6), none⟩,
⟨some 38, .fadr 3 (.t 3), none⟩,
⟨some 39, .load none (.t 38), none⟩,
⟨some 40, .len (.t 39), none⟩,
⟨some 41, .bin .lss (.t 37) (.t 40), none⟩] [1, 3, 5, 6, 41])
(.cond (.t 41)
.skip
(.exit 2)))
(.seq
(.block 3
(.seq
(.seq
(.region (some [0, 1, 0, 4, 12, 31, 63, 127, 255, 127, 639, 2047, 4095, 127, 8319, 127, 57471, 123007, 262143, 524287, 1048575]) [
⟨some 45, .mov (.t 6), none⟩,
⟨some 46, .bin .add (.t 45) (.c (.int .i64 1)), none⟩,
⟨some 47, .fadr 3 (.t 3), none⟩,
⟨some 48, .load none (.t 47), none⟩,
⟨some 49, .len (.t 48), none⟩,
⟨some 50, .bin .lss (.t 46) (.t 49), none⟩,
⟨some 51, .mov (.t 50), none⟩,
⟨some 52, .fadr 3 (.t 3), (some (51, true))⟩,
⟨some 53, .load none (.t 52), (some (51, true))⟩,
⟨some 54, .mov (.t 6), (some (51, true))⟩,
⟨some 55, .bin .add (.t 54) (.c (.int .i64 1)), (some (51, true))⟩,
⟨some 56, .iadr 5 (.t 53) (.t 55), (some (51, true))⟩,
⟨some 57, .load (some 5) (.t 56), (some (51, true))⟩,
⟨some 58, .fadr 3 (.t 3), (some (51, true))⟩,
⟨some 59, .load none (.t 58), (some (51, true))⟩,
⟨some 60, .mov (.t 6), (some (51, true))⟩,
⟨some 61, .iadr 5 (.t 59) (.t 60), (some (51, true))⟩,
⟨some 62, .load (some 5) (.t 61), (some (51, true))⟩,
⟨some 63, .call .pur 162 [(.t 57), (.t 62)], (some (51, true))⟩,
⟨some 64, .bin .lss (.t 63) (.c (.int .i64 0)), (some (51, true))⟩,
⟨some 65, .pick (.t 51) (.t 64) (.c (.bool false)), none⟩] [1, 3, 5, 6, 65])
(.cond (.t 65)
(.region none [
⟨some 66, .mov (.t 6), none⟩,
⟨some 67, .bin .add (.t 66) (.c (.int .i64 1)), none⟩,
⟨some 6, .mov (.t 67), none⟩] [1, 3, 5, 6])
.skip))
(.seq
(.seq
(.region (some [0, 1, 0, 7, 15, 0, 63, 127]) [
⟨some 68, .fadr 3 (.t 3), none⟩,
⟨some 69, .load none (.t 68), none⟩,
⟨some 70, .mov (.t 6), none⟩,
⟨some 71, .iadr 5 (.t 69) (.t 70), none⟩,
⟨some 72, .load (some 5) (.t 71), none⟩,
⟨some 73, .load (some 5) (.t 5), none⟩,
⟨some 74, .call .pur 162 [(.t 72), (.t 73)], none⟩,
⟨some 75, .bin .geq (.t 74) (.c (.int .i64 0)), none⟩] [1, 3, 5, 6, 75])
(.cond (.t 75)
(.exit 2)
.skip))
(.seq
(.region (some [0, 0, 0, 4, 0, 28, 60, 127]) [
⟨some 76, .load (some 5) (.t 3), none⟩,
⟨some 77, .mov (.t 1), none⟩,
⟨some 78, .fadr 3 (.t 3), none⟩,
⟨some 79, .load none (.t 78), none⟩,
⟨some 80, .mov (.t 6), none⟩,
⟨some 81, .iadr 5 (.t 79) (.t 80), none⟩,
⟨some 82, .load (some 5) (.t 81), none⟩,
⟨some 83, .call .fp 251 [(.t 76), (.t 77), (.t 82)], none⟩] [3, 5, 6])
(.region none [
⟨some 84, .mov (.t 6), none⟩,
⟨some 1, .mov (.t 84), none⟩] [1, 3, 5])))))
(.region none [
⟨some 42, .mov (.t 1), none⟩,
⟨some 43, .bin .mul (.c (.int .i64 2)) (.t 42), none⟩,
⟨some 44, .bin .add (.t 43) (.c (.int .i64 1)), none⟩,
⟨some 6, .mov (.t 44), none⟩] [1, 3, 5, 6]))))))
(.region none [
⟨some 85, .load (some 5) (.t 3), none⟩,
⟨some 86, .mov (.t 1), none⟩,
⟨some 87, .load (some 5) (.t 5), none⟩,
⟨some 88, .call .fp 251 [(.t 85), (.t 86), (.t 87)], none⟩] [])))),
[]⟩

theorem x214_ok : chkFunc Go.Proofs.Tryz.prog (fun _ => true) x214 214 = true := by decide +kernel

/-- slices.ContainsFunc[[]peloton/api.Event,peloton/api.Event] -/
def x215 : XFunc := ⟨2,
(.seq
(.region none [
⟨some 4, .mov (.c (.bool false)), none⟩] [0, 1])
(.seq
(.region none [
⟨some 5, .mov (.t 0), none⟩,
⟨some 6, .mov (.t 1), none⟩,
⟨some 7, .call .pur 252 [(.t 5), (.t 6)], none⟩,
⟨some 8, .bin .geq (.t 7) (.c (.int .i64 0)), none⟩,
⟨some 4, .mov (.t 8), none⟩] [4])
.ret)),
[.tmp 4]⟩

theorem x215_ok : chkFunc Go.Proofs.Tryz.prog (fun _ => true) x215 215 = true := by decide +kernel

/-- peloton/agenda.Push$1 -/
def x216 : XFunc := ⟨2,
(.seq
(.region none [
⟨some 2, .box (.t 0), none⟩,
⟨some 3, .mov (.c (.bool false)), none⟩] [1, 2])
(.seq
(.region none [
⟨some 4, .fadr 2 (.t 2), none⟩,
⟨some 5, .load none (.t 4), none⟩,
⟨some 6, .load none (.t 1), none⟩,
⟨some 7, .bin .eql (.t 5) (.t 6), none⟩,
⟨some 3, .mov (.t 7), none⟩] [3])
.ret)),
[.tmp 3]⟩

theorem x216_ok : chkFunc Go.Proofs.Tryz.prog (fun _ => true) x216 216 = true := by decide +kernel

/-- peloton/slot.Take -/
def x217 : XFunc := ⟨1,
(.seq
(.region none [
⟨some 1, .box (.t 0), none⟩,
⟨some 2, .alloc [.sl 1 true [], .sl 1 true [], .sl 1 true []], none⟩,
⟨some 3, .alloc [.int .i64 0, .int .i64 0], none⟩,
⟨some 4, .mov (.c (.int .i64 0)), none⟩] [1, 2, 3])
(.seq
(.seq
(.region none [
⟨some 9, .load (some 3) (.t 1), none⟩,
⟨some 10, .call .pur 161 [(.t 9)], none⟩,
⟨some 5, .mov (.t 10), none⟩] [1, 2, 3, 5])
(.seq
(.region none [
⟨some 11, .mov (.t 5), none⟩,
⟨some 12, .bin .neq (.t 11) (.c (.int .i64 0)), none⟩] [1, 2, 3, 5, 12])
(.cond (.t 12)
(.seq
(.region none [
⟨some 13, .build [.sl 1 true [], .sl 1 true [], .sl 1 true []] [], none⟩,
⟨some 14, .build [.int .i64 0, .int .i64 0] [], none⟩,
⟨some 15, .mov (.t 5), none⟩,
⟨none, .store 3 (.t 2) (.t 13), none⟩,
⟨none, .store 2 (.t 3) (.t 14), none⟩,
⟨some 4, .mov (.t 15), none⟩] [2, 3, 4])
.ret)
.skip)))
(.seq
(.seq
(.region none [
⟨some 16, .fadr 2 (.t 1), none⟩,
⟨some 17, .load none (.t 16), none⟩,
⟨some 18, .len (.t 17), none⟩,
⟨some 19, .bin .eql (.t 18) (.c (.int .i64 0)), none⟩] [1, 2, 3, 19])
(.cond (.t 19)
(.seq
(.region none [
⟨some 20, .build [.sl 1 true [], .sl 1 true [], .sl 1 true []] [], none⟩,
⟨some 21, .build [.int .i64 0, .int .i64 0] [], none⟩,
⟨none, .store 3 (.t 2) (.t 20), none⟩,
⟨none, .store 2 (.t 3) (.t 21), none⟩,
⟨some 4, .mov (.c (.int .i64 18)), none⟩] [2, 3, 4])
.ret)
.skip))
(.seq
(.region none [
⟨some 23, .fadr 2 (.t 1), none⟩,
⟨some 24, .load none (.t 23), none⟩,
⟨some 25, .call .pur 253 [(.t 24)], none⟩,
⟨some 22, .mov (.t 25), none⟩,
⟨some 26, .ext 0 (.t 22), none⟩,
⟨some 27, .ext 1 (.t 22), none⟩,
⟨some 6, .mov (.t 26), none⟩,
⟨some 7, .mov (.t 27), none⟩] [1, 2, 3, 6, 7])
(.seq
(.seq
(.region none [
⟨some 28, .fadr 0 (.t 1), none⟩,
⟨some 29, .load none (.t 28), none⟩,
⟨some 30, .mov (.t 7), none⟩,
⟨some 31, .iadr 1 (.t 29) (.t 30), none⟩,
⟨some 32, .load none (.t 31), none⟩,
⟨some 33, .bin .eql (.t 32) (.c (.int .i64 1000000)), none⟩] [1, 2, 3, 6, 7, 33])
(.cond (.t 33)
(.seq
(.region none [
⟨some 34, .build [.sl 1 true [], .sl 1 true [], .sl 1 true []] [], none⟩,
⟨some 35, .build [.int .i64 0, .int .i64 0] [], none⟩,
⟨none, .store 3 (.t 2) (.t 34), none⟩,
⟨none, .store 2 (.t 3) (.t 35), none⟩,
⟨some 4, .mov (.c (.int .i64 18)), none⟩] [2, 3, 4])
.ret)
.skip))
(.seq
(.region none [
⟨some 36, .load (some 3) (.t 1), none⟩,
⟨some 37, .call .shr 254 [(.t 36)], none⟩,
⟨some 8, .alloc [.sl 1 true [], .sl 1 true [], .sl 1 true []], none⟩,
⟨none, .store 3 (.t 8) (.t 37), none⟩] [2, 3, 6, 7, 8])
(.seq
(.region none [
⟨some 38, .fadr 1 (.t 8), none⟩,
⟨some 39, .load none (.t 38), none⟩,
⟨some 40, .mov (.t 7), none⟩,
⟨some 41, .mov (.t 6), none⟩,
⟨some 42, .fadr 2 (.t 8), none⟩,
⟨none, .store 1 (.t 42) (.t 41), none⟩,
⟨some 43, .iadr 1 (.t 39) (.t 40), none⟩,
⟨none, .store 1 (.t 43) (.c (.bool true)), none⟩] [2, 3, 7, 8])
(.seq
(.region none [
⟨some 44, .fadr 0 (.t 8), none⟩,
⟨some 45, .load none (.t 44), none⟩,
⟨some 46, .mov (.t 7), none⟩,
⟨some 47, .iadr 1 (.t 45) (.t 46), none⟩,
⟨some 48, .load none (.t 47), none⟩,
⟨some 49, .bin .add (.t 48) (.c (.int .i64 1)), none⟩,
⟨some 50, .iadr 1 (.t 45) (.t 46), none⟩,
⟨none, .store 1 (.t 50) (.t 49), none⟩] [2, 3, 7, 8])
(.seq
(.region (some [0, 0, 0, 4, 0, 28, 60, 126, 1, 511, 1023]) [
⟨some 51, .load (some 3) (.t 8), none⟩,
⟨some 52, .mov (.t 7), none⟩,
⟨some 53, .fadr 0 (.t 8), none⟩,
⟨some 54, .load none (.t 53), none⟩,
⟨some 55, .mov (.t 7), none⟩,
⟨some 56, .iadr 1 (.t 54) (.t 55), none⟩,
⟨some 57, .load none (.t 56), none⟩,
⟨some 58, .build [.int .i64 0, .int .i64 0] [(0, 1, (.t 52)), (1, 1, (.t 57))], none⟩,
⟨none, .store 3 (.t 2) (.t 51), none⟩,
⟨none, .store 2 (.t 3) (.t 58), none⟩,
⟨some 4, .mov (.c (.int .i64 0)), none⟩] [2, 3, 4])
.ret))))))))),
[.cell 2 (some 3), .cell 3 (some 2), .tmp 4]⟩

theorem x217_ok : chkFunc Go.Proofs.Tryz.prog (fun _ => true) x217 217 = true := by decide +kernel

/-- peloton/agenda.remove -/
def x218 : XFunc := ⟨2,
(.seq
(.region none [
⟨some 2, .box (.t 0), none⟩,
⟨some 4, .alloc [.sl 1 true [], .sl 1 true [], .sl 1 true [], .sl 5 true [], .sl 1 true []], none⟩,
⟨some 5, .alloc [.int .i64 0, .int .i64 0, .int .i64 0, .int .i64 0, .int .i64 0], none⟩,
⟨some 6, .mov (.c (.int .i64 0)), none⟩] [1, 2, 4, 5])
(.seq
(.region none [
⟨some 13, .fadr 3 (.t 2), none⟩,
⟨some 14, .load none (.t 13), none⟩,
⟨some 15, .mov (.t 1), none⟩,
⟨some 16, .iadr 5 (.t 14) (.t 15), none⟩,
⟨some 17, .load (some 5) (.t 16), none⟩,
⟨some 7, .alloc [.int .i64 0, .int .i64 0, .int .i64 0, .int .i64 0, .int .i64 0], none⟩,
⟨none, .store 5 (.t 7) (.t 17), none⟩] [1, 2, 4, 5, 7])
(.seq
(.region none [
⟨some 19, .fadr 0 (.t 2), none⟩,
⟨some 20, .load (some 3) (.t 19), none⟩,
⟨some 21, .fadr 3 (.t 7), none⟩,
⟨some 22, .load (some 2) (.t 21), none⟩,
⟨some 23, .call .pur 255 [(.t 20), (.t 22)], none⟩,
⟨some 18, .mov (.t 23), none⟩,
⟨some 24, .ext 0 (.t 18), none⟩,
⟨some 25, .ext 1 (.t 18), none⟩,
⟨some 8, .alloc [.sl 1 true [], .sl 1 true [], .sl 1 true []], none⟩,
⟨none, .store 3 (.t 8) (.t 24), none⟩,
⟨some 9, .mov (.t 25), none⟩] [1, 2, 4, 5, 7, 8, 9])
(.seq
(.seq
(.region none [
⟨some 26, .mov (.t 9), none⟩,
⟨some 27, .bin .neq (.t 26) (.c (.int .i64 0)), none⟩] [1, 2, 4, 5, 7, 8, 9, 27])
(.cond (.t 27)
(.seq
(.region none [
⟨some 28, .build [.sl 1 true [], .sl 1 true [], .sl 1 true [], .sl 5 true [], .sl 1 true []] [], none⟩,
⟨some 29, .build [.int .i64 0, .int .i64 0, .int .i64 0, .int .i64 0, .int .i64 0] [], none⟩,
⟨some 30, .mov (.t 9), none⟩,
⟨none, .store 5 (.t 4) (.t 28), none⟩,
⟨none, .store 5 (.t 5) (.t 29), none⟩,
⟨some 6, .mov (.t 30), none⟩] [4, 5, 6])
.ret)
.skip))
(.seq
(.region none [
⟨some 31, .load (some 5) (.t 2), none⟩,
⟨some 32, .call .shr 213 [(.t 31)], none⟩,
⟨some 10, .alloc [.sl 1 true [], .sl 1 true [], .sl 1 true [], .sl 5 true [], .sl 1 true []], none⟩,
⟨none, .store 5 (.t 10) (.t 32), none⟩] [1, 4, 5, 7, 8, 10])
(.seq
(.region none [
⟨some 33, .fadr 3 (.t 10), none⟩,
⟨some 34, .load none (.t 33), none⟩,
⟨some 35, .len (.t 34), none⟩,
⟨some 36, .bin .sub (.t 35) (.c (.int .i64 1)), none⟩,
⟨some 11, .mov (.t 36), none⟩] [1, 4, 5, 7, 8, 10, 11])
(.seq
(.region none [
⟨some 37, .fadr 3 (.t 10), none⟩,
⟨some 38, .load none (.t 37), none⟩,
⟨some 39, .mov (.t 11), none⟩,
⟨some 40, .iadr 5 (.t 38) (.t 39), none⟩,
⟨some 41, .load (some 5) (.t 40), none⟩,
⟨some 12, .alloc [.int .i64 0, .int .i64 0, .int .i64 0, .int .i64 0, .int .i64 0], none⟩,
⟨none, .store 5 (.t 12) (.t 41), none⟩] [1, 4, 5, 7, 8, 10, 11, 12])
(.seq
(.region (some [0, 1, 0, 4, 12, 0, 0, 64, 0, 448, 227, 1251, 4067, 8163, 16383, 32767]) [
⟨some 42, .fadr 4 (.t 10), none⟩,
⟨some 43, .load none (.t 42), none⟩,
⟨some 44, .fadr 3 (.t 7), none⟩,
⟨some 45, .fadr 0 (.t 44), none⟩,
⟨some 46, .load none (.t 45), none⟩,
⟨some 47, .load (some 3) (.t 8), none⟩,
⟨some 48, .fadr 3 (.t 10), none⟩,
⟨some 49, .load none (.t 48), none⟩,
⟨some 50, .mov (.t 11), none⟩,
⟨some 51, .slc 5 (.t 49) none (some (.t 50)) none, none⟩,
⟨some 52, .fadr 0 (.t 10), none⟩,
⟨none, .store 3 (.t 52) (.t 47), none⟩,
⟨some 53, .fadr 3 (.t 10), none⟩,
⟨none, .store 1 (.t 53) (.t 51), none⟩,
⟨some 54, .iadr 1 (.t 43) (.t 46), none⟩,
⟨none, .store 1 (.t 54) (.c (.int .i64 (-1))), none⟩] [1, 4, 5, 7, 10, 11, 12])
(.seq
(.seq
(.region none [
⟨some 55, .mov (.t 1), none⟩,
⟨some 56, .mov (.t 11), none⟩,
⟨some 57, .bin .lss (.t 55) (.t 56), none⟩] [1, 4, 5, 7, 10, 12, 57])
(.cond (.t 57)
(.region none [
⟨some 58, .load (some 5) (.t 10), none⟩,
⟨some 59, .mov (.t 1), none⟩,
⟨some 60, .load (some 5) (.t 12), none⟩,
⟨some 61, .call .fp 214 [(.t 58), (.t 59), (.t 60)], none⟩] [4, 5, 7, 10])
.skip))
(.seq
(.region (some [0, 0, 1, 7, 15]) [
⟨some 62, .load (some 5) (.t 10), none⟩,
⟨some 63, .load (some 5) (.t 7), none⟩,
⟨none, .store 5 (.t 4) (.t 62), none⟩,
⟨none, .store 5 (.t 5) (.t 63), none⟩,
⟨some 6, .mov (.c (.int .i64 0)), none⟩] [4, 5, 6])
.ret)))))))))),
[.cell 4 (some 5), .cell 5 (some 5), .tmp 6]⟩

theorem x218_ok : chkFunc Go.Proofs.Tryz.prog (fun _ => true) x218 218 = true := by decide +kernel

/-- peloton/cert.Add$1 -/
def x219 : XFunc := ⟨2,
(.seq
(.region none [
⟨some 2, .box (.t 0), none⟩,
⟨some 3, .mov (.c (.bool false)), none⟩] [1, 2])
(.seq
(.region none [
⟨some 4, .fadr 1 (.t 2), none⟩,
⟨some 5, .load (some 2) (.t 4), none⟩,
⟨some 6, .load (some 2) (.t 1), none⟩,
⟨some 7, .eqc 2 false (.t 5) (.t 6), none⟩,
⟨some 3, .mov (.t 7), none⟩] [3])
.ret)),
[.tmp 3]⟩

theorem x219_ok : chkFunc Go.Proofs.Tryz.prog (fun _ => true) x219 219 = true := by decide +kernel

/-- peloton/pelotonref02.Met -/
def x220 : XFunc := ⟨2,
(.seq
(.region none [
⟨some 2, .box (.t 0), none⟩,
⟨some 3, .box (.t 1), none⟩,
⟨some 4, .alloc [.int .i64 0, .int .i64 0], none⟩] [2, 3, 4])
(.seq
(.region none [
⟨some 8, .fadr 1 (.t 2), none⟩,
⟨some 9, .load none (.t 8), none⟩,
⟨some 10, .fadr 1 (.t 3), none⟩,
⟨some 11, .load none (.t 10), none⟩,
⟨some 12, .bin .sub (.t 9) (.t 11), none⟩,
⟨some 13, .fadr 2 (.t 3), none⟩,
⟨some 14, .load none (.t 13), none⟩,
⟨some 15, .fadr 2 (.t 2), none⟩,
⟨some 16, .load none (.t 15), none⟩,
⟨some 17, .bin .sub (.t 14) (.t 16), none⟩,
⟨some 18, .call .pur 256 [(.t 12), (.t 17)], none⟩,
⟨some 7, .mov (.t 18), none⟩,
⟨some 19, .ext 0 (.t 7), none⟩,
⟨some 20, .ext 1 (.t 7), none⟩,
⟨some 5, .alloc [.int .i64 0, .int .i64 0], none⟩,
⟨none, .store 2 (.t 5) (.t 19), none⟩,
⟨some 6, .mov (.t 20), none⟩] [4, 5])
(.seq
(.region none [
⟨some 21, .load (some 2) (.t 5), none⟩,
⟨none, .store 2 (.t 4) (.t 21), none⟩] [4])
.ret))),
[.cell 4 (some 2)]⟩

theorem x220_ok : chkFunc Go.Proofs.Tryz.prog (fun _ => true) x220 220 = true := by decide +kernel

/-- peloton/pelotonref06.Taken -/
def x221 : XFunc := ⟨1,
(.seq
(.region none [
⟨some 1, .box (.t 0), none⟩,
⟨some 2, .alloc [.sl 1 true [], .sl 1 true [], .sl 1 true []], none⟩,
⟨some 3, .alloc [.int .i64 0, .int .i64 0], none⟩] [1, 2, 3])
(.seq
(.region none [
⟨some 6, .load (some 3) (.t 1), none⟩,
⟨some 7, .call .own 99 [(.t 6)], none⟩,
⟨some 4, .alloc [.sl 1 true [], .sl 1 true [], .sl 1 true []], none⟩,
⟨none, .store 3 (.t 4) (.t 7), none⟩] [2, 3, 4])
(.seq
(.region none [
⟨some 8, .fadr 2 (.t 4), none⟩,
⟨some 9, .load none (.t 8), none⟩,
⟨some 10, .fadr 2 (.t 4), none⟩,
⟨some 11, .load none (.t 10), none⟩,
⟨some 12, .len (.t 11), none⟩,
⟨some 13, .bin .sub (.t 12) (.c (.int .i64 1)), none⟩,
⟨some 14, .iadr 1 (.t 9) (.t 13), none⟩,
⟨some 15, .load none (.t 14), none⟩,
⟨some 5, .mov (.t 15), none⟩] [2, 3, 4, 5])
(.seq
(.region none [
⟨some 16, .fadr 2 (.t 4), none⟩,
⟨some 17, .load none (.t 16), none⟩,
⟨some 18, .fadr 2 (.t 4), none⟩,
⟨some 19, .load none (.t 18), none⟩,
⟨some 20, .len (.t 19), none⟩,
⟨some 21, .bin .sub (.t 20) (.c (.int .i64 1)), none⟩,
⟨some 22, .slc 1 (.t 17) none (some (.t 21)) none, none⟩,
⟨some 23, .fadr 2 (.t 4), none⟩,
⟨none, .store 1 (.t 23) (.t 22), none⟩] [2, 3, 4, 5])
(.seq
(.region none [
⟨some 24, .fadr 0 (.t 4), none⟩,
⟨some 25, .load none (.t 24), none⟩,
⟨some 26, .mov (.t 5), none⟩,
⟨some 27, .iadr 1 (.t 25) (.t 26), none⟩,
⟨some 28, .load none (.t 27), none⟩,
⟨some 29, .bin .add (.t 28) (.c (.int .i64 1)), none⟩,
⟨some 30, .iadr 1 (.t 25) (.t 26), none⟩,
⟨none, .store 1 (.t 30) (.t 29), none⟩] [2, 3, 4, 5])
(.seq
(.region none [
⟨some 31, .fadr 1 (.t 4), none⟩,
⟨some 32, .load none (.t 31), none⟩,
⟨some 33, .mov (.t 5), none⟩,
⟨some 34, .iadr 1 (.t 32) (.t 33), none⟩,
⟨none, .store 1 (.t 34) (.c (.bool true)), none⟩] [2, 3, 4, 5])
(.seq
(.region (some [0, 0, 0, 4, 0, 28, 60, 126, 1, 511]) [
⟨some 35, .load (some 3) (.t 4), none⟩,
⟨some 36, .mov (.t 5), none⟩,
⟨some 37, .fadr 0 (.t 4), none⟩,
⟨some 38, .load none (.t 37), none⟩,
⟨some 39, .mov (.t 5), none⟩,
⟨some 40, .iadr 1 (.t 38) (.t 39), none⟩,
⟨some 41, .load none (.t 40), none⟩,
⟨some 42, .build [.int .i64 0, .int .i64 0] [(0, 1, (.t 36)), (1, 1, (.t 41))], none⟩,
⟨none, .store 3 (.t 2) (.t 35), none⟩,
⟨none, .store 2 (.t 3) (.t 42), none⟩] [2, 3])
.ret))))))),
[.cell 2 (some 3), .cell 3 (some 2)]⟩

theorem x221_ok : chkFunc Go.Proofs.Tryz.prog (fun _ => true) x221 221 = true := by decide +kernel

/-- cmp.isNaN[uint64] -/
def x222 : XFunc := ⟨1,
(.seq
(.region none [
⟨some 2, .mov (.c (.bool false)), none⟩] [0])
(.seq
(.region none [
⟨some 3, .mov (.t 0), none⟩,
⟨some 4, .mov (.t 0), none⟩,
⟨some 5, .bin .neq (.t 3) (.t 4), none⟩,
⟨some 2, .mov (.t 5), none⟩] [2])
.ret)),
[.tmp 2]⟩

theorem x222_ok : chkFunc Go.Proofs.Tryz.prog (fun _ => true) x222 222 = true := by decide +kernel

/-- math/bits.Mul -/
def x223 : XFunc := ⟨2,
(.seq
(.region none [
⟨some 4, .mov (.c (.int .u64 0)), none⟩,
⟨some 5, .mov (.c (.int .u64 0)), none⟩] [0, 1])
(.seq
(.cond (.c (.bool false))
(.seq
(.region none [
⟨some 11, .mov (.t 0), none⟩,
⟨some 12, .conv .u32 (.t 11), none⟩,
⟨some 13, .mov (.t 1), none⟩,
⟨some 14, .conv .u32 (.t 13), none⟩,
⟨some 15, .call .pur 257 [(.t 12), (.t 14)], none⟩,
⟨some 10, .mov (.t 15), none⟩,
⟨some 16, .ext 0 (.t 10), none⟩,
⟨some 17, .ext 1 (.t 10), none⟩,
⟨some 6, .mov (.t 16), none⟩,
⟨some 7, .mov (.t 17), none⟩] [6, 7])
(.seq
(.region none [
⟨some 18, .mov (.t 6), none⟩,
⟨some 19, .conv .u64 (.t 18), none⟩,
⟨some 20, .mov (.t 7), none⟩,
⟨some 21, .conv .u64 (.t 20), none⟩,
⟨some 4, .mov (.t 19), none⟩,
⟨some 5, .mov (.t 21), none⟩] [4, 5])
.ret))
.skip)
(.seq
(.region none [
⟨some 23, .mov (.t 0), none⟩,
⟨some 24, .mov (.t 1), none⟩,
⟨some 25, .call .pur 187 [(.t 23), (.t 24)], none⟩,
⟨some 22, .mov (.t 25), none⟩,
⟨some 26, .ext 0 (.t 22), none⟩,
⟨some 27, .ext 1 (.t 22), none⟩,
⟨some 8, .mov (.t 26), none⟩,
⟨some 9, .mov (.t 27), none⟩] [8, 9])
(.seq
(.region none [
⟨some 28, .mov (.t 8), none⟩,
⟨some 29, .mov (.t 9), none⟩,
⟨some 4, .mov (.t 28), none⟩,
⟨some 5, .mov (.t 29), none⟩] [4, 5])
.ret)))),
[.tmp 4, .tmp 5]⟩

theorem x223_ok : chkFunc Go.Proofs.Tryz.prog (fun _ => true) x223 223 = true := by decide +kernel

/-- peloton/course.sum -/
def x224 : XFunc := ⟨1,
(.seq
(.region none [
⟨some 1, .box (.t 0), none⟩,
⟨some 2, .alloc [.int .i64 0, .int .u64 0], none⟩] [1, 2])
(.seq
(.region none [
⟨some 3, .alloc [.int .i64 0, .int .u64 0], none⟩] [1, 2, 3])
(.seq
(.seq
(.region none [
⟨some 11, .load (some 4) (.t 1), none⟩,
⟨some 12, .mov (.c (.int .i64 0)), none⟩] [2, 3, 11, 12])
(.block 0
(.loop [(2, none), (3, none), (11, none), (12, none)]
(.seq
(.region none [
⟨some 13, .bin .lss (.t 12) (.c (.int .i64 2)), none⟩] [2, 3, 11, 12, 13])
(.seq
(.cond (.t 13)
.skip
(.exit 0))
(.seq
(.block 1
(.seq
(.region none [
⟨some 14, .idx 2 2 (some 2) (.t 11) (.t 12), none⟩,
⟨some 5, .alloc [.int .i64 0, .int .i64 0], none⟩,
⟨none, .store 2 (.t 5) (.t 14), none⟩] [2, 3, 5, 11, 12])
(.seq
(.region none [
⟨some 16, .iadra 2 1 (.t 5) (.c (.int .i64 0)), none⟩,
⟨some 17, .load none (.t 16), none⟩,
⟨some 18, .conv .u64 (.t 17), none⟩,
⟨some 19, .iadra 2 1 (.t 5) (.c (.int .i64 1)), none⟩,
⟨some 20, .load none (.t 19), none⟩,
⟨some 21, .conv .u64 (.t 20), none⟩,
⟨some 22, .call .pur 187 [(.t 18), (.t 21)], none⟩,
⟨some 15, .mov (.t 22), none⟩,
⟨some 23, .ext 0 (.t 15), none⟩,
⟨some 24, .ext 1 (.t 15), none⟩,
⟨some 6, .mov (.t 23), none⟩,
⟨some 7, .mov (.t 24), none⟩] [2, 3, 5, 6, 7, 11, 12])
(.seq
(.region none [
⟨some 25, .mov (.t 6), none⟩,
⟨some 26, .conv .i64 (.t 25), none⟩,
⟨some 8, .mov (.t 26), none⟩] [2, 3, 5, 7, 8, 11, 12])
(.seq
(.seq
(.region none [
⟨some 27, .iadra 2 1 (.t 5) (.c (.int .i64 0)), none⟩,
⟨some 28, .load none (.t 27), none⟩,
⟨some 29, .bin .lss (.t 28) (.c (.int .i64 0)), none⟩] [2, 3, 5, 7, 8, 11, 12, 29])
(.cond (.t 29)
(.region none [
⟨some 30, .mov (.t 8), none⟩,
⟨some 31, .iadra 2 1 (.t 5) (.c (.int .i64 1)), none⟩,
⟨some 32, .load none (.t 31), none⟩,
⟨some 33, .bin .sub (.t 30) (.t 32), none⟩,
⟨some 8, .mov (.t 33), none⟩] [2, 3, 5, 7, 8, 11, 12])
.skip))
(.seq
(.seq
(.region none [
⟨some 34, .iadra 2 1 (.t 5) (.c (.int .i64 1)), none⟩,
⟨some 35, .load none (.t 34), none⟩,
⟨some 36, .bin .lss (.t 35) (.c (.int .i64 0)), none⟩] [2, 3, 5, 7, 8, 11, 12, 36])
(.cond (.t 36)
(.region none [
⟨some 37, .mov (.t 8), none⟩,
⟨some 38, .iadra 2 1 (.t 5) (.c (.int .i64 0)), none⟩,
⟨some 39, .load none (.t 38), none⟩,
⟨some 40, .bin .sub (.t 37) (.t 39), none⟩,
⟨some 8, .mov (.t 40), none⟩] [2, 3, 7, 8, 11, 12])
.skip))
(.seq
(.region none [
⟨some 42, .fadr 1 (.t 3), none⟩,
⟨some 43, .load none (.t 42), none⟩,
⟨some 44, .mov (.t 7), none⟩,
⟨some 45, .call .pur 258 [(.t 43), (.t 44), (.c (.int .u64 0))], none⟩,
⟨some 41, .mov (.t 45), none⟩,
⟨some 46, .ext 0 (.t 41), none⟩,
⟨some 47, .ext 1 (.t 41), none⟩,
⟨some 9, .mov (.t 46), none⟩,
⟨some 10, .mov (.t 47), none⟩] [2, 3, 8, 9, 10, 11, 12])
(.region none [
⟨some 48, .fadr 0 (.t 3), none⟩,
⟨some 49, .load none (.t 48), none⟩,
⟨some 50, .mov (.t 8), none⟩,
⟨some 51, .bin .add (.t 49) (.t 50), none⟩,
⟨some 52, .mov (.t 10), none⟩,
⟨some 53, .conv .i64 (.t 52), none⟩,
⟨some 54, .bin .add (.t 51) (.t 53), none⟩,
⟨some 55, .mov (.t 9), none⟩,
⟨some 56, .build [.int .i64 0, .int .u64 0] [(0, 1, (.t 54)), (1, 1, (.t 55))], none⟩,
⟨none, .store 2 (.t 3) (.t 56), none⟩] [2, 3, 11, 12]))))))))
(.region none [
⟨some 57, .bin .add (.t 12) (.c (.int .i64 1)), none⟩,
⟨some 12, .mov (.t 57), none⟩] [2, 3, 11, 12])))))))
(.seq
(.region none [
⟨some 58, .load (some 2) (.t 3), none⟩,
⟨none, .store 2 (.t 2) (.t 58), none⟩] [2])
.ret)))),
[.cell 2 (some 2)]⟩

theorem x224_ok : chkFunc Go.Proofs.Tryz.prog (fun _ => true) x224 224 = true := by decide +kernel

/-- peloton/pelotonref01.minus -/
def x225 : XFunc := ⟨2,
(.seq
(.region none [
⟨some 2, .box (.t 0), none⟩,
⟨some 3, .box (.t 1), none⟩,
⟨some 4, .alloc [.bool false, .int .u64 0, .int .u64 0], none⟩] [2, 3, 4])
(.seq
(.region none [
⟨some 6, .fadr 1 (.t 2), none⟩,
⟨some 7, .load none (.t 6), none⟩,
⟨some 8, .fadr 1 (.t 3), none⟩,
⟨some 9, .load none (.t 8), none⟩,
⟨some 10, .bin .sub (.t 7) (.t 9), none⟩,
⟨some 11, .fadr 2 (.t 2), none⟩,
⟨some 12, .load none (.t 11), none⟩,
⟨some 13, .fadr 2 (.t 3), none⟩,
⟨some 14, .load none (.t 13), none⟩,
⟨some 15, .bin .sub (.t 12) (.t 14), none⟩,
⟨some 16, .build [.bool false, .int .u64 0, .int .u64 0] [(1, 1, (.t 10)), (2, 1, (.t 15))], none⟩,
⟨some 5, .alloc [.bool false, .int .u64 0, .int .u64 0], none⟩,
⟨none, .store 3 (.t 5) (.t 16), none⟩] [2, 3, 4, 5])
(.seq
(.seq
(.region none [
⟨some 17, .fadr 2 (.t 2), none⟩,
⟨some 18, .load none (.t 17), none⟩,
⟨some 19, .fadr 2 (.t 3), none⟩,
⟨some 20, .load none (.t 19), none⟩,
⟨some 21, .bin .lss (.t 18) (.t 20), none⟩] [4, 5, 21])
(.cond (.t 21)
(.region none [
⟨some 22, .fadr 1 (.t 5), none⟩,
⟨some 23, .load none (.t 22), none⟩,
⟨some 24, .bin .sub (.t 23) (.c (.int .u64 1)), none⟩,
⟨some 25, .fadr 1 (.t 5), none⟩,
⟨none, .store 1 (.t 25) (.t 24), none⟩] [4, 5])
.skip))
(.seq
(.region none [
⟨some 26, .load (some 3) (.t 5), none⟩,
⟨none, .store 3 (.t 4) (.t 26), none⟩] [4])
.ret)))),
[.cell 4 (some 3)]⟩

theorem x225_ok : chkFunc Go.Proofs.Tryz.prog (fun _ => true) x225 225 = true := by decide +kernel

/-- peloton/ratio.build -/
def x236 : XFunc := ⟨3,
(.seq
(.region none [
⟨some 3, .box (.t 0), none⟩,
⟨some 6, .alloc [.int .i64 0, .int .i64 0], none⟩,
⟨some 7, .mov (.c (.int .i64 0)), none⟩] [1, 2, 3, 6])
(.seq
(.seq
(.region none [
⟨some 9, .fadr 1 (.t 3), none⟩,
⟨some 10, .load none (.t 9), none⟩,
⟨some 11, .bin .gtr (.t 10) (.c (.int .u64 0)), none⟩,
⟨some 12, .mov (.t 11), none⟩,
⟨some 13, .fadr 2 (.t 3), (some (12, false))⟩,
⟨some 14, .load none (.t 13), (some (12, false))⟩,
⟨some 15, .bin .gtr (.t 14) (.c (.int .u64 9223372036854775807)), (some (12, false))⟩,
⟨some 16, .pick (.t 12) (.c (.bool true)) (.t 15), none⟩,
⟨some 17, .mov (.t 16), none⟩,
⟨some 18, .mov (.t 1), (some (17, false))⟩,
⟨some 19, .bin .gtr (.t 18) (.c (.int .u64 0)), (some (17, false))⟩,
⟨some 20, .pick (.t 17) (.c (.bool true)) (.t 19), none⟩,
⟨some 21, .mov (.t 20), none⟩,
⟨some 22, .mov (.t 2), (some (21, false))⟩,
⟨some 23, .bin .gtr (.t 22) (.c (.int .u64 9223372036854775807)), (some (21, false))⟩,
⟨some 24, .pick (.t 21) (.c (.bool true)) (.t 23), none⟩] [2, 3, 6, 24])
(.cond (.t 24)
(.seq
(.region none [
⟨some 25, .build [.int .i64 0, .int .i64 0] [], none⟩,
⟨none, .store 2 (.t 6) (.t 25), none⟩,
⟨some 7, .mov (.c (.int .i64 16)), none⟩] [6, 7])
.ret)
.skip))
(.seq
(.region none [
⟨some 26, .fadr 2 (.t 3), none⟩,
⟨some 27, .load none (.t 26), none⟩,
⟨some 28, .conv .i64 (.t 27), none⟩,
⟨some 29, .mov (.t 2), none⟩,
⟨some 30, .conv .i64 (.t 29), none⟩,
⟨some 31, .build [.int .i64 0, .int .i64 0] [(0, 1, (.t 28)), (1, 1, (.t 30))], none⟩,
⟨some 8, .alloc [.int .i64 0, .int .i64 0], none⟩,
⟨none, .store 2 (.t 8) (.t 31), none⟩] [3, 6, 8])
(.seq
(.seq
(.region none [
⟨some 32, .fadr 0 (.t 3), none⟩,
⟨some 33, .load none (.t 32), none⟩] [6, 8, 33])
(.cond (.t 33)
(.region none [
⟨some 34, .fadr 0 (.t 8), none⟩,
⟨some 35, .load none (.t 34), none⟩,
⟨some 36, .un .neg (.t 35), none⟩,
⟨some 37, .fadr 0 (.t 8), none⟩,
⟨none, .store 1 (.t 37) (.t 36), none⟩] [6, 8])
.skip))
(.seq
(.region none [
⟨some 38, .load (some 2) (.t 8), none⟩,
⟨none, .store 2 (.t 6) (.t 38), none⟩,
⟨some 7, .mov (.c (.int .i64 0)), none⟩] [6, 7])
.ret))))),
[.cell 6 (some 2), .tmp 7]⟩

theorem x236_ok : chkFunc Go.Proofs.Tryz.prog (fun _ => true) x236 236 = true := by decide +kernel

/-- cmp.isNaN[int] -/
def x245 : XFunc := ⟨1,
(.seq
(.region none [
⟨some 2, .mov (.c (.bool false)), none⟩] [0])
(.seq
(.region none [
⟨some 3, .mov (.t 0), none⟩,
⟨some 4, .mov (.t 0), none⟩,
⟨some 5, .bin .neq (.t 3) (.t 4), none⟩,
⟨some 2, .mov (.t 5), none⟩] [2])
.ret)),
[.tmp 2]⟩

theorem x245_ok : chkFunc Go.Proofs.Tryz.prog (fun _ => true) x245 245 = true := by decide +kernel

/-- slices.IndexFunc[[]int,int] -/
def x246 : XFunc := ⟨2,
(.seq
(.region none [
⟨some 4, .mov (.c (.int .i64 0)), none⟩] [0, 1])
(.seq
(.seq
(.region none [
⟨some 6, .mov (.t 0), none⟩,
⟨some 7, .len (.t 6), none⟩,
⟨some 8, .mov (.c (.int .i64 0)), none⟩] [0, 1, 7, 8])
(.block 0
(.loop [(0, none), (1, none), (7, none), (8, none)]
(.seq
(.region none [
⟨some 9, .bin .lss (.t 8) (.t 7), none⟩] [0, 1, 7, 8, 9])
(.seq
(.cond (.t 9)
.skip
(.exit 0))
(.seq
(.block 1
(.seq
(.region none [
⟨some 10, .mov (.t 8), none⟩,
⟨some 5, .mov (.t 10), none⟩] [0, 1, 5, 7, 8])
(.seq
(.region none [
⟨some 11, .mov (.t 1), none⟩,
⟨some 12, .mov (.t 0), none⟩,
⟨some 13, .mov (.t 5), none⟩,
⟨some 14, .iadr 1 (.t 12) (.t 13), none⟩,
⟨some 15, .load none (.t 14), none⟩,
⟨some 16, .callv (.t 11) [(.t 15)], none⟩] [0, 1, 5, 7, 8, 16])
(.cond (.t 16)
(.seq
(.region none [
⟨some 17, .mov (.t 5), none⟩,
⟨some 4, .mov (.t 17), none⟩] [4])
.ret)
.skip))))
(.region none [
⟨some 18, .bin .add (.t 8) (.c (.int .i64 1)), none⟩,
⟨some 8, .mov (.t 18), none⟩] [0, 1, 7, 8])))))))
(.seq
(.region none [
⟨some 4, .mov (.c (.int .i64 (-1))), none⟩] [4])
.ret))),
[.tmp 4]⟩

theorem x246_ok : chkFunc Go.Proofs.Tryz.prog (fun _ => true) x246 246 = true := by decide +kernel

/-- slices.Index[[]bool,bool] -/
def x247 : XFunc := ⟨2,
(.seq
(.region none [
⟨some 4, .mov (.c (.int .i64 0)), none⟩] [0, 1])
(.seq
(.seq
(.region none [
⟨some 6, .mov (.t 0), none⟩,
⟨some 7, .len (.t 6), none⟩,
⟨some 8, .mov (.c (.int .i64 0)), none⟩] [0, 1, 7, 8])
(.block 0
(.loop [(0, none), (1, none), (7, none), (8, none)]
(.seq
(.region none [
⟨some 9, .bin .lss (.t 8) (.t 7), none⟩] [0, 1, 7, 8, 9])
(.seq
(.cond (.t 9)
.skip
(.exit 0))
(.seq
(.block 1
(.seq
(.region none [
⟨some 10, .mov (.t 8), none⟩,
⟨some 5, .mov (.t 10), none⟩] [0, 1, 5, 7, 8])
(.seq
(.region none [
⟨some 11, .mov (.t 1), none⟩,
⟨some 12, .mov (.t 0), none⟩,
⟨some 13, .mov (.t 5), none⟩,
⟨some 14, .iadr 1 (.t 12) (.t 13), none⟩,
⟨some 15, .load none (.t 14), none⟩,
⟨some 16, .binb false (.t 11) (.t 15), none⟩] [0, 1, 5, 7, 8, 16])
(.cond (.t 16)
(.seq
(.region none [
⟨some 17, .mov (.t 5), none⟩,
⟨some 4, .mov (.t 17), none⟩] [4])
.ret)
.skip))))
(.region none [
⟨some 18, .bin .add (.t 8) (.c (.int .i64 1)), none⟩,
⟨some 8, .mov (.t 18), none⟩] [0, 1, 7, 8])))))))
(.seq
(.region none [
⟨some 4, .mov (.c (.int .i64 (-1))), none⟩] [4])
.ret))),
[.tmp 4]⟩

theorem x247_ok : chkFunc Go.Proofs.Tryz.prog (fun _ => true) x247 247 = true := by decide +kernel

/-- peloton/cert.find -/
def x248 : XFunc := ⟨2,
(.seq
(.region none [
⟨some 2, .box (.t 0), none⟩,
⟨some 4, .mov (.c (.int .i64 0)), none⟩,
⟨some 5, .mov (.c (.int .i64 0)), none⟩] [1, 2])
(.seq
(.seq
(.region none [
⟨some 9, .load (some 2) (.t 2), none⟩,
⟨some 10, .call .pur 100 [(.t 9)], none⟩,
⟨some 6, .mov (.t 10), none⟩] [1, 2, 6])
(.seq
(.region none [
⟨some 11, .mov (.t 6), none⟩,
⟨some 12, .bin .neq (.t 11) (.c (.int .i64 0)), none⟩] [1, 2, 6, 12])
(.cond (.t 12)
(.seq
(.region none [
⟨some 13, .mov (.t 6), none⟩,
⟨some 4, .mov (.c (.int .i64 0)), none⟩,
⟨some 5, .mov (.t 13), none⟩] [4, 5])
.ret)
.skip)))
(.seq
(.region none [
⟨some 15, .fadr 1 (.t 2), none⟩,
⟨some 16, .load none (.t 15), none⟩,
⟨some 17, .mov (.t 1), none⟩,
⟨some 18, .call .pur 267 [(.t 16), (.t 17), (.c (.clo 268 [] []))], none⟩,
⟨some 14, .mov (.t 18), none⟩,
⟨some 19, .ext 0 (.t 14), none⟩,
⟨some 20, .ext 1 (.t 14), none⟩,
⟨some 7, .mov (.t 19), none⟩,
⟨some 8, .mov (.t 20), none⟩] [7, 8])
(.seq
(.seq
(.region none [
⟨some 21, .mov (.t 8), none⟩,
⟨some 22, .un .not (.t 21), none⟩] [7, 22])
(.cond (.t 22)
(.seq
(.region none [
⟨some 4, .mov (.c (.int .i64 0)), none⟩,
⟨some 5, .mov (.c (.int .i64 6)), none⟩] [4, 5])
.ret)
.skip))
(.seq
(.region none [
⟨some 23, .mov (.t 7), none⟩,
⟨some 4, .mov (.t 23), none⟩,
⟨some 5, .mov (.c (.int .i64 0)), none⟩] [4, 5])
.ret))))),
[.tmp 4, .tmp 5]⟩

theorem x248_ok : chkFunc Go.Proofs.Tryz.prog (fun _ => true) x248 248 = true := by decide +kernel

/-- slices.Delete[[]peloton/api.Held,peloton/api.Held] -/
def x249 : XFunc := ⟨3,
(.seq
(.region none [
⟨some 6, .mov (.c (.sl 3 true [])), none⟩] [0, 1, 2])
(.seq
(.region none [
⟨some 8, .mov (.t 0), none⟩,
⟨some 9, .mov (.t 1), none⟩,
⟨some 10, .mov (.t 2), none⟩,
⟨some 11, .mov (.t 0), none⟩,
⟨some 12, .len (.t 11), none⟩,
⟨some 13, .slc 3 (.t 8) (some (.t 9)) (some (.t 10)) (some (.t 12)), none⟩] [0, 1, 2])
(.seq
(.seq
(.region none [
⟨some 14, .mov (.t 1), none⟩,
⟨some 15, .mov (.t 2), none⟩,
⟨some 16, .bin .eql (.t 14) (.t 15), none⟩] [0, 1, 2, 16])
(.cond (.t 16)
(.seq
(.region none [
⟨some 17, .mov (.t 0), none⟩,
⟨some 6, .mov (.t 17), none⟩] [6])
.ret)
.skip))
(.seq
(.region none [
⟨some 18, .mov (.t 0), none⟩,
⟨some 19, .len (.t 18), none⟩,
⟨some 7, .mov (.t 19), none⟩] [0, 1, 2, 7])
(.seq
(.region (some [0, 0, 3, 0, 0, 24, 63, 127]) [
⟨some 20, .mov (.t 0), none⟩,
⟨some 21, .mov (.t 1), none⟩,
⟨some 22, .slc 3 (.t 20) none (some (.t 21)) none, none⟩,
⟨some 23, .mov (.t 0), none⟩,
⟨some 24, .mov (.t 2), none⟩,
⟨some 25, .slc 3 (.t 23) (some (.t 24)) none none, none⟩,
⟨some 26, .append 3 (.t 22) (.t 25), none⟩,
⟨some 0, .mov (.t 26), none⟩] [0, 7])
(.seq
(.region none [
⟨some 27, .mov (.t 0), none⟩,
⟨some 28, .mov (.t 0), none⟩,
⟨some 29, .len (.t 28), none⟩,
⟨some 30, .mov (.t 7), none⟩,
⟨some 31, .slc 3 (.t 27) (some (.t 29)) (some (.t 30)) none, none⟩,
⟨none, .clear 3 [.int .i64 0, .int .i64 0, .int .i64 0] (.t 31), none⟩] [0])
(.seq
(.region none [
⟨some 32, .mov (.t 0), none⟩,
⟨some 6, .mov (.t 32), none⟩] [6])
.ret))))))),
[.tmp 6]⟩

theorem x249_ok : chkFunc Go.Proofs.Tryz.prog (fun _ => true) x249 249 = true := by decide +kernel

/-- peloton/slot.Has -/
def x250 : XFunc := ⟨2,
(.seq
(.region none [
⟨some 2, .box (.t 0), none⟩,
⟨some 3, .box (.t 1), none⟩,
⟨some 4, .mov (.c (.bool false)), none⟩,
⟨some 5, .mov (.c (.int .i64 0)), none⟩] [2, 3])
(.seq
(.seq
(.region none [
⟨some 7, .load (some 3) (.t 2), none⟩,
⟨some 8, .call .pur 161 [(.t 7)], none⟩,
⟨some 6, .mov (.t 8), none⟩] [2, 3, 6])
(.seq
(.region none [
⟨some 9, .mov (.t 6), none⟩,
⟨some 10, .bin .neq (.t 9) (.c (.int .i64 0)), none⟩] [2, 3, 6, 10])
(.cond (.t 10)
(.seq
(.region none [
⟨some 11, .mov (.t 6), none⟩,
⟨some 4, .mov (.c (.bool false)), none⟩,
⟨some 5, .mov (.t 11), none⟩] [4, 5])
.ret)
.skip)))
(.seq
(.region (some [0, 1, 3, 7, 15, 31, 15, 79, 207, 511, 1023, 2047, 4095, 8191, 4095, 20479, 65535, 131071, 262143, 524287, 1048575, 2097151, 1048575, 5242879, 16777215, 33554431, 1048575, 68157439, 268435455, 536870911, 1073741823, 2147483647]) [
⟨some 12, .fadr 0 (.t 3), none⟩,
⟨some 13, .load none (.t 12), none⟩,
⟨some 14, .bin .geq (.t 13) (.c (.int .i64 0)), none⟩,
⟨some 15, .mov (.t 14), none⟩,
⟨some 16, .fadr 0 (.t 3), (some (15, true))⟩,
⟨some 17, .load none (.t 16), (some (15, true))⟩,
⟨some 18, .fadr 1 (.t 2), (some (15, true))⟩,
⟨some 19, .load none (.t 18), (some (15, true))⟩,
⟨some 20, .len (.t 19), (some (15, true))⟩,
⟨some 21, .bin .lss (.t 17) (.t 20), (some (15, true))⟩,
⟨some 22, .pick (.t 15) (.t 21) (.c (.bool false)), none⟩,
⟨some 23, .mov (.t 22), none⟩,
⟨some 24, .fadr 1 (.t 2), (some (23, true))⟩,
⟨some 25, .load none (.t 24), (some (23, true))⟩,
⟨some 26, .fadr 0 (.t 3), (some (23, true))⟩,
⟨some 27, .load none (.t 26), (some (23, true))⟩,
⟨some 28, .iadr 1 (.t 25) (.t 27), (some (23, true))⟩,
⟨some 29, .load none (.t 28), (some (23, true))⟩,
⟨some 30, .pick (.t 23) (.t 29) (.c (.bool false)), none⟩,
⟨some 31, .mov (.t 30), none⟩,
⟨some 32, .fadr 0 (.t 2), (some (31, true))⟩,
⟨some 33, .load none (.t 32), (some (31, true))⟩,
⟨some 34, .fadr 0 (.t 3), (some (31, true))⟩,
⟨some 35, .load none (.t 34), (some (31, true))⟩,
⟨some 36, .iadr 1 (.t 33) (.t 35), (some (31, true))⟩,
⟨some 37, .load none (.t 36), (some (31, true))⟩,
⟨some 38, .fadr 1 (.t 3), (some (31, true))⟩,
⟨some 39, .load none (.t 38), (some (31, true))⟩,
⟨some 40, .bin .eql (.t 37) (.t 39), (some (31, true))⟩,
⟨some 41, .pick (.t 31) (.t 40) (.c (.bool false)), none⟩,
⟨some 4, .mov (.t 41), none⟩,
⟨some 5, .mov (.c (.int .i64 0)), none⟩] [4, 5])
.ret))),
[.tmp 4, .tmp 5]⟩

theorem x250_ok : chkFunc Go.Proofs.Tryz.prog (fun _ => true) x250 250 = true := by decide +kernel

/-- peloton/agenda.set -/
def x251 : XFunc := ⟨3,
(.seq
(.region none [
⟨some 3, .box (.t 0), none⟩,
⟨some 5, .box (.t 2), none⟩] [1, 3, 5])
(.region (some [0, 1, 0, 0, 8, 0, 32, 96, 0, 0, 263, 1287, 4095, 8191]) [
⟨some 6, .fadr 3 (.t 3), none⟩,
⟨some 7, .load none (.t 6), none⟩,
⟨some 8, .mov (.t 1), none⟩,
⟨some 9, .fadr 4 (.t 3), none⟩,
⟨some 10, .load none (.t 9), none⟩,
⟨some 11, .fadr 3 (.t 5), none⟩,
⟨some 12, .fadr 0 (.t 11), none⟩,
⟨some 13, .load none (.t 12), none⟩,
⟨some 14, .load (some 5) (.t 5), none⟩,
⟨some 15, .mov (.t 1), none⟩,
⟨some 16, .iadr 5 (.t 7) (.t 8), none⟩,
⟨none, .store 5 (.t 16) (.t 14), none⟩,
⟨some 17, .iadr 1 (.t 10) (.t 13), none⟩,
⟨none, .store 1 (.t 17) (.t 15), none⟩] [])),
[]⟩

theorem x251_ok : chkFunc Go.Proofs.Tryz.prog (fun _ => true) x251 251 = true := by decide +kernel

/-- slices.IndexFunc[[]peloton/api.Event,peloton/api.Event] -/
def x252 : XFunc := ⟨2,
(.seq
(.region none [
⟨some 4, .mov (.c (.int .i64 0)), none⟩] [0, 1])
(.seq
(.seq
(.region none [
⟨some 6, .mov (.t 0), none⟩,
⟨some 7, .len (.t 6), none⟩,
⟨some 8, .mov (.c (.int .i64 0)), none⟩] [0, 1, 7, 8])
(.block 0
(.loop [(0, none), (1, none), (7, none), (8, none)]
(.seq
(.region none [
⟨some 9, .bin .lss (.t 8) (.t 7), none⟩] [0, 1, 7, 8, 9])
(.seq
(.cond (.t 9)
.skip
(.exit 0))
(.seq
(.block 1
(.seq
(.region none [
⟨some 10, .mov (.t 8), none⟩,
⟨some 5, .mov (.t 10), none⟩] [0, 1, 5, 7, 8])
(.seq
(.region none [
⟨some 11, .mov (.t 1), none⟩,
⟨some 12, .mov (.t 0), none⟩,
⟨some 13, .mov (.t 5), none⟩,
⟨some 14, .iadr 5 (.t 12) (.t 13), none⟩,
⟨some 15, .load (some 5) (.t 14), none⟩,
⟨some 16, .callv (.t 11) [(.t 15)], none⟩] [0, 1, 5, 7, 8, 16])
(.cond (.t 16)
(.seq
(.region none [
⟨some 17, .mov (.t 5), none⟩,
⟨some 4, .mov (.t 17), none⟩] [4])
.ret)
.skip))))
(.region none [
⟨some 18, .bin .add (.t 8) (.c (.int .i64 1)), none⟩,
⟨some 8, .mov (.t 18), none⟩] [0, 1, 7, 8])))))))
(.seq
(.region none [
⟨some 4, .mov (.c (.int .i64 (-1))), none⟩] [4])
.ret))),
[.tmp 4]⟩

theorem x252_ok : chkFunc Go.Proofs.Tryz.prog (fun _ => true) x252 252 = true := by decide +kernel

/-- (peloton/slot.stack[int]).pop -/
def x253 : XFunc := ⟨1,
(.seq
(.region none [
⟨some 2, .mov (.c (.sl 1 true [])), none⟩,
⟨some 3, .mov (.c (.int .i64 0)), none⟩] [0])
(.seq
(.region none [
⟨some 5, .mov (.t 0), none⟩,
⟨some 6, .len (.t 5), none⟩,
⟨some 7, .bin .sub (.t 6) (.c (.int .i64 1)), none⟩,
⟨some 4, .mov (.t 7), none⟩] [0, 4])
(.seq
(.region (some [0, 0, 3, 7, 0, 0, 48, 112, 15, 511]) [
⟨some 8, .mov (.t 0), none⟩,
⟨some 9, .mov (.t 4), none⟩,
⟨some 10, .slc 1 (.t 8) none (some (.t 9)) none, none⟩,
⟨some 11, .call .pur 269 [(.t 10)], none⟩,
⟨some 12, .mov (.t 0), none⟩,
⟨some 13, .mov (.t 4), none⟩,
⟨some 14, .iadr 1 (.t 12) (.t 13), none⟩,
⟨some 15, .load none (.t 14), none⟩,
⟨some 2, .mov (.t 11), none⟩,
⟨some 3, .mov (.t 15), none⟩] [2, 3])
.ret))),
[.tmp 2, .tmp 3]⟩

theorem x253_ok : chkFunc Go.Proofs.Tryz.prog (fun _ => true) x253 253 = true := by decide +kernel

/-- peloton/slot.twin -/
def x254 : XFunc := ⟨1,
(.seq
(.region none [
⟨some 1, .box (.t 0), none⟩,
⟨some 2, .alloc [.sl 1 true [], .sl 1 true [], .sl 1 true []], none⟩] [1, 2])
(.seq
(.region (some [0, 1, 3, 0, 8, 31, 0, 64, 255, 511]) [
⟨some 3, .fadr 0 (.t 1), none⟩,
⟨some 4, .load none (.t 3), none⟩,
⟨some 5, .call .pur 69 [(.t 4)], none⟩,
⟨some 6, .fadr 1 (.t 1), none⟩,
⟨some 7, .load none (.t 6), none⟩,
⟨some 8, .call .pur 116 [(.t 7)], none⟩,
⟨some 9, .fadr 2 (.t 1), none⟩,
⟨some 10, .load none (.t 9), none⟩,
⟨some 11, .build [.sl 1 true [], .sl 1 true [], .sl 1 true []] [(0, 1, (.t 5)), (1, 1, (.t 8)), (2, 1, (.t 10))], none⟩,
⟨none, .store 3 (.t 2) (.t 11), none⟩] [2])
.ret)),
[.cell 2 (some 3)]⟩

theorem x254_ok : chkFunc Go.Proofs.Tryz.prog (fun _ => true) x254 254 = true := by decide +kernel

/-- peloton/slot.Give -/
def x255 : XFunc := ⟨2,
(.seq
(.region none [
⟨some 2, .box (.t 0), none⟩,
⟨some 3, .box (.t 1), none⟩,
⟨some 4, .alloc [.sl 1 true [], .sl 1 true [], .sl 1 true []], none⟩,
⟨some 5, .mov (.c (.int .i64 0)), none⟩] [2, 3, 4])
(.seq
(.region none [
⟨some 10, .load (some 3) (.t 2), none⟩,
⟨some 11, .load (some 2) (.t 3), none⟩,
⟨some 12, .call .pur 250 [(.t 10), (.t 11)], none⟩,
⟨some 9, .mov (.t 12), none⟩,
⟨some 13, .ext 0 (.t 9), none⟩,
⟨some 14, .ext 1 (.t 9), none⟩,
⟨some 6, .mov (.t 13), none⟩,
⟨some 7, .mov (.t 14), none⟩] [2, 3, 4, 6, 7])
(.seq
(.seq
(.region none [
⟨some 15, .mov (.t 7), none⟩,
⟨some 16, .bin .neq (.t 15) (.c (.int .i64 0)), none⟩] [2, 3, 4, 6, 7, 16])
(.cond (.t 16)
(.seq
(.region none [
⟨some 17, .build [.sl 1 true [], .sl 1 true [], .sl 1 true []] [], none⟩,
⟨some 18, .mov (.t 7), none⟩,
⟨none, .store 3 (.t 4) (.t 17), none⟩,
⟨some 5, .mov (.t 18), none⟩] [4, 5])
.ret)
.skip))
(.seq
(.seq
(.region none [
⟨some 19, .mov (.t 6), none⟩,
⟨some 20, .un .not (.t 19), none⟩] [2, 3, 4, 20])
(.cond (.t 20)
(.seq
(.region none [
⟨some 21, .build [.sl 1 true [], .sl 1 true [], .sl 1 true []] [], none⟩,
⟨none, .store 3 (.t 4) (.t 21), none⟩,
⟨some 5, .mov (.c (.int .i64 6)), none⟩] [4, 5])
.ret)
.skip))
(.seq
(.region none [
⟨some 22, .load (some 3) (.t 2), none⟩,
⟨some 23, .call .shr 254 [(.t 22)], none⟩,
⟨some 8, .alloc [.sl 1 true [], .sl 1 true [], .sl 1 true []], none⟩,
⟨none, .store 3 (.t 8) (.t 23), none⟩] [2, 3, 4, 8])
(.seq
(.region (some [0, 1, 0, 4, 0, 16, 0, 64, 240, 499, 1011, 2047, 4095]) [
⟨some 24, .fadr 1 (.t 8), none⟩,
⟨some 25, .load none (.t 24), none⟩,
⟨some 26, .fadr 0 (.t 3), none⟩,
⟨some 27, .load none (.t 26), none⟩,
⟨some 28, .fadr 2 (.t 2), none⟩,
⟨some 29, .load none (.t 28), none⟩,
⟨some 30, .fadr 0 (.t 3), none⟩,
⟨some 31, .load none (.t 30), none⟩,
⟨some 32, .call .pur 270 [(.t 29), (.t 31)], none⟩,
⟨some 33, .fadr 2 (.t 8), none⟩,
⟨none, .store 1 (.t 33) (.t 32), none⟩,
⟨some 34, .iadr 1 (.t 25) (.t 27), none⟩,
⟨none, .store 1 (.t 34) (.c (.bool false)), none⟩] [4, 8])
(.seq
(.region none [
⟨some 35, .load (some 3) (.t 8), none⟩,
⟨none, .store 3 (.t 4) (.t 35), none⟩,
⟨some 5, .mov (.c (.int .i64 0)), none⟩] [4, 5])
.ret))))))),
[.cell 4 (some 3), .tmp 5]⟩

theorem x255_ok : chkFunc Go.Proofs.Tryz.prog (fun _ => true) x255 255 = true := by decide +kernel

/-- peloton/pelotonref01.Make -/
def x256 : XFunc := ⟨2,
(.seq
(.region none [
⟨some 4, .alloc [.int .i64 0, .int .i64 0], none⟩,
⟨some 5, .mov (.c (.int .i64 0)), none⟩] [0, 1, 4])
(.seq
(.seq
(.region none [
⟨some 7, .mov (.t 1), none⟩,
⟨some 8, .bin .eql (.t 7) (.c (.int .i64 0)), none⟩] [0, 1, 4, 8])
(.cond (.t 8)
(.seq
(.region none [
⟨some 9, .build [.int .i64 0, .int .i64 0] [], none⟩,
⟨none, .store 2 (.t 4) (.t 9), none⟩,
⟨some 5, .mov (.c (.int .i64 26)), none⟩] [4, 5])
.ret)
.skip))
(.seq
(.region none [
⟨some 10, .mov (.t 0), none⟩,
⟨some 11, .call .pur 94 [(.t 10)], none⟩,
⟨some 12, .mov (.t 1), none⟩,
⟨some 13, .call .pur 94 [(.t 12)], none⟩,
⟨some 14, .call .pur 93 [(.t 11), (.t 13)], none⟩,
⟨some 6, .mov (.t 14), none⟩] [0, 1, 4, 6])
(.seq
(.region (some [0, 1, 0, 4, 15, 31, 63, 127, 255, 0, 575, 0, 3647, 7743, 0, 17983, 0, 116287, 247359, 524287, 1048575, 1048575, 4194303, 8388607]) [
⟨some 15, .mov (.t 0), none⟩,
⟨some 16, .bin .lss (.t 15) (.c (.int .i64 0)), none⟩,
⟨some 17, .mov (.t 1), none⟩,
⟨some 18, .bin .lss (.t 17) (.c (.int .i64 0)), none⟩,
⟨some 19, .binb true (.t 16) (.t 18), none⟩,
⟨some 20, .mov (.t 19), none⟩,
⟨some 21, .mov (.t 0), (some (20, true))⟩,
⟨some 22, .bin .neq (.t 21) (.c (.int .i64 0)), (some (20, true))⟩,
⟨some 23, .pick (.t 20) (.t 22) (.c (.bool false)), none⟩,
⟨some 24, .mov (.t 0), none⟩,
⟨some 25, .call .pur 94 [(.t 24)], none⟩,
⟨some 26, .mov (.t 6), none⟩,
⟨some 27, .bin .quo (.t 25) (.t 26), none⟩,
⟨some 28, .build [.bool false, .int .u64 0, .int .u64 0] [(2, 1, (.t 27))], none⟩,
⟨some 29, .mov (.t 1), none⟩,
⟨some 30, .call .pur 94 [(.t 29)], none⟩,
⟨some 31, .mov (.t 6), none⟩,
⟨some 32, .bin .quo (.t 30) (.t 31), none⟩,
⟨some 33, .build [.bool false, .int .u64 0, .int .u64 0] [(2, 1, (.t 32))], none⟩,
⟨some 34, .call .pur 271 [(.t 23), (.t 28), (.t 33)], none⟩,
⟨some 35, .ext 0 (.t 34), none⟩,
⟨some 36, .ext 1 (.t 34), none⟩,
⟨none, .store 2 (.t 4) (.t 35), none⟩,
⟨some 5, .mov (.t 36), none⟩] [4, 5])
.ret)))),
[.cell 4 (some 2), .tmp 5]⟩

theorem x256_ok : chkFunc Go.Proofs.Tryz.prog (fun _ => true) x256 256 = true := by decide +kernel

/-- math/bits.Mul32 -/
def x257 : XFunc := ⟨2,
(.seq
(.region none [
⟨some 4, .mov (.c (.int .u32 0)), none⟩,
⟨some 5, .mov (.c (.int .u32 0)), none⟩] [0, 1])
(.seq
(.region none [
⟨some 7, .mov (.t 0), none⟩,
⟨some 8, .conv .u64 (.t 7), none⟩,
⟨some 9, .mov (.t 1), none⟩,
⟨some 10, .conv .u64 (.t 9), none⟩,
⟨some 11, .bin .mul (.t 8) (.t 10), none⟩,
⟨some 6, .mov (.t 11), none⟩] [6])
(.seq
(.region none [
⟨some 12, .mov (.t 6), none⟩,
⟨some 13, .bin .shr (.t 12) (.c (.int .u64 32)), none⟩,
⟨some 14, .conv .u32 (.t 13), none⟩,
⟨some 15, .mov (.t 6), none⟩,
⟨some 16, .conv .u32 (.t 15), none⟩,
⟨some 4, .mov (.t 14), none⟩,
⟨some 5, .mov (.t 16), none⟩] [4, 5])
.ret))),
[.tmp 4, .tmp 5]⟩

theorem x257_ok : chkFunc Go.Proofs.Tryz.prog (fun _ => true) x257 257 = true := by decide +kernel

/-- slices.BinarySearchFunc[[]peloton/api.Held,peloton/api.Held,int] -/
def x267 : XFunc := ⟨3,
(.seq
(.region none [
⟨some 6, .mov (.c (.int .i64 0)), none⟩,
⟨some 7, .mov (.c (.bool false)), none⟩] [0, 1, 2])
(.seq
(.region none [
⟨some 12, .mov (.t 0), none⟩,
⟨some 13, .len (.t 12), none⟩,
⟨some 8, .mov (.t 13), none⟩] [0, 1, 2, 8])
(.seq
(.region none [
⟨some 14, .mov (.t 8), none⟩,
⟨some 9, .mov (.c (.int .i64 0)), none⟩,
⟨some 10, .mov (.t 14), none⟩] [0, 1, 2, 8, 9, 10])
(.seq
(.block 0
(.loop [(0, none), (1, none), (2, none), (8, none), (9, none), (10, none)]
(.seq
(.seq
(.region none [
⟨some 15, .mov (.t 9), none⟩,
⟨some 16, .mov (.t 10), none⟩,
⟨some 17, .bin .lss (.t 15) (.t 16), none⟩] [0, 1, 2, 8, 9, 10, 17])
(.cond (.t 17)
.skip
(.exit 0)))
(.block 1
(.seq
(.region none [
⟨some 18, .mov (.t 9), none⟩,
⟨some 19, .mov (.t 10), none⟩,
⟨some 20, .bin .add (.t 18) (.t 19), none⟩,
⟨some 21, .conv .u64 (.t 20), none⟩,
⟨some 22, .bin .shr (.t 21) (.c (.int .u64 1)), none⟩,
⟨some 23, .conv .i64 (.t 22), none⟩,
⟨some 11, .mov (.t 23), none⟩] [0, 1, 2, 8, 9, 10, 11])
(.seq
(.region none [
⟨some 24, .mov (.t 2), none⟩,
⟨some 25, .mov (.t 0), none⟩,
⟨some 26, .mov (.t 11), none⟩,
⟨some 27, .iadr 3 (.t 25) (.t 26), none⟩,
⟨some 28, .load (some 3) (.t 27), none⟩,
⟨some 29, .mov (.t 1), none⟩,
⟨some 30, .callv (.t 24) [(.t 28), (.t 29)], none⟩,
⟨some 31, .bin .lss (.t 30) (.c (.int .i64 0)), none⟩] [0, 1, 2, 8, 9, 10, 11, 31])
(.cond (.t 31)
(.region none [
⟨some 32, .mov (.t 11), none⟩,
⟨some 33, .bin .add (.t 32) (.c (.int .i64 1)), none⟩,
⟨some 9, .mov (.t 33), none⟩] [0, 1, 2, 8, 9, 10])
(.region none [
⟨some 34, .mov (.t 11), none⟩,
⟨some 10, .mov (.t 34), none⟩] [0, 1, 2, 8, 9, 10]))))))))
(.seq
(.region none [
⟨some 35, .mov (.t 9), none⟩,
⟨some 36, .mov (.t 9), none⟩,
⟨some 37, .mov (.t 8), none⟩,
⟨some 38, .bin .lss (.t 36) (.t 37), none⟩,
⟨some 39, .mov (.t 38), none⟩,
⟨some 40, .mov (.t 2), (some (39, true))⟩,
⟨some 41, .mov (.t 0), (some (39, true))⟩,
⟨some 42, .mov (.t 9), (some (39, true))⟩,
⟨some 43, .iadr 3 (.t 41) (.t 42), (some (39, true))⟩,
⟨some 44, .load (some 3) (.t 43), (some (39, true))⟩,
⟨some 45, .mov (.t 1), (some (39, true))⟩,
⟨some 46, .callv (.t 40) [(.t 44), (.t 45)], (some (39, true))⟩,
⟨some 47, .bin .eql (.t 46) (.c (.int .i64 0)), (some (39, true))⟩,
⟨some 48, .pick (.t 39) (.t 47) (.c (.bool false)), none⟩,
⟨some 6, .mov (.t 35), none⟩,
⟨some 7, .mov (.t 48), none⟩] [6, 7])
.ret))))),
[.tmp 6, .tmp 7]⟩

theorem x267_ok : chkFunc Go.Proofs.Tryz.prog (fun _ => true) x267 267 = true := by decide +kernel

/-- peloton/cert.find$1 -/
def x268 : XFunc := ⟨2,
(.seq
(.region none [
⟨some 2, .box (.t 0), none⟩,
⟨some 4, .mov (.c (.int .i64 0)), none⟩] [1, 2])
(.seq
(.region none [
⟨some 5, .fadr 0 (.t 2), none⟩,
⟨some 6, .load none (.t 5), none⟩,
⟨some 7, .mov (.t 1), none⟩,
⟨some 8, .call .pur 201 [(.t 6), (.t 7)], none⟩,
⟨some 4, .mov (.t 8), none⟩] [4])
.ret)),
[.tmp 4]⟩

theorem x268_ok : chkFunc Go.Proofs.Tryz.prog (fun _ => true) x268 268 = true := by decide +kernel

/-- (peloton/slot.stack[int]).push -/
def x270 : XFunc := ⟨2,
(.seq
(.region none [
⟨some 4, .mov (.c (.sl 1 true [])), none⟩] [0, 1])
(.seq
(.region none [
⟨some 5, .mov (.t 0), none⟩,
⟨some 6, .call .pur 269 [(.t 5)], none⟩,
⟨some 7, .mov (.t 1), none⟩,
⟨some 8, .mkrow 1 1 [.int .i64 0] [(0, (.t 7))], none⟩,
⟨some 9, .append 1 (.t 6) (.t 8), none⟩,
⟨some 4, .mov (.t 9), none⟩] [4])
.ret)),
[.tmp 4]⟩

theorem x270_ok : chkFunc Go.Proofs.Tryz.prog (fun _ => true) x270 270 = true := by decide +kernel

/-- peloton/pelotonref01.made -/
def x271 : XFunc := ⟨3,
(.seq
(.region none [
⟨some 4, .box (.t 1), none⟩,
⟨some 5, .box (.t 2), none⟩,
⟨some 6, .alloc [.int .i64 0, .int .i64 0], none⟩,
⟨some 7, .mov (.c (.int .i64 0)), none⟩] [0, 4, 5, 6])
(.seq
(.seq
(.region none [
⟨some 8, .fadr 1 (.t 4), none⟩,
⟨some 9, .load none (.t 8), none⟩,
⟨some 10, .bin .gtr (.t 9) (.c (.int .u64 0)), none⟩,
⟨some 11, .mov (.t 10), none⟩,
⟨some 12, .fadr 2 (.t 4), (some (11, false))⟩,
⟨some 13, .load none (.t 12), (some (11, false))⟩,
⟨some 14, .bin .gtr (.t 13) (.c (.int .u64 9223372036854775807)), (some (11, false))⟩,
⟨some 15, .pick (.t 11) (.c (.bool true)) (.t 14), none⟩,
⟨some 16, .mov (.t 15), none⟩,
⟨some 17, .fadr 1 (.t 5), (some (16, false))⟩,
⟨some 18, .load none (.t 17), (some (16, false))⟩,
⟨some 19, .bin .gtr (.t 18) (.c (.int .u64 0)), (some (16, false))⟩,
⟨some 20, .pick (.t 16) (.c (.bool true)) (.t 19), none⟩,
⟨some 21, .mov (.t 20), none⟩,
⟨some 22, .fadr 2 (.t 5), (some (21, false))⟩,
⟨some 23, .load none (.t 22), (some (21, false))⟩,
⟨some 24, .bin .gtr (.t 23) (.c (.int .u64 9223372036854775807)), (some (21, false))⟩,
⟨some 25, .pick (.t 21) (.c (.bool true)) (.t 24), none⟩] [0, 4, 5, 6, 25])
(.cond (.t 25)
(.seq
(.region none [
⟨some 26, .build [.int .i64 0, .int .i64 0] [], none⟩,
⟨none, .store 2 (.t 6) (.t 26), none⟩,
⟨some 7, .mov (.c (.int .i64 16)), none⟩] [6, 7])
.ret)
.skip))
(.seq
(.seq
(.region none [
⟨some 27, .mov (.t 0), none⟩] [4, 5, 6, 27])
(.cond (.t 27)
(.seq
(.region none [
⟨some 28, .fadr 2 (.t 4), none⟩,
⟨some 29, .load none (.t 28), none⟩,
⟨some 30, .conv .i64 (.t 29), none⟩,
⟨some 31, .un .neg (.t 30), none⟩,
⟨some 32, .fadr 2 (.t 5), none⟩,
⟨some 33, .load none (.t 32), none⟩,
⟨some 34, .conv .i64 (.t 33), none⟩,
⟨some 35, .build [.int .i64 0, .int .i64 0] [(0, 1, (.t 31)), (1, 1, (.t 34))], none⟩,
⟨none, .store 2 (.t 6) (.t 35), none⟩,
⟨some 7, .mov (.c (.int .i64 0)), none⟩] [6, 7])
.ret)
.skip))
(.seq
(.region none [
⟨some 36, .fadr 2 (.t 4), none⟩,
⟨some 37, .load none (.t 36), none⟩,
⟨some 38, .conv .i64 (.t 37), none⟩,
⟨some 39, .fadr 2 (.t 5), none⟩,
⟨some 40, .load none (.t 39), none⟩,
⟨some 41, .conv .i64 (.t 40), none⟩,
⟨some 42, .build [.int .i64 0, .int .i64 0] [(0, 1, (.t 38)), (1, 1, (.t 41))], none⟩,
⟨none, .store 2 (.t 6) (.t 42), none⟩,
⟨some 7, .mov (.c (.int .i64 0)), none⟩] [6, 7])
.ret)))),
[.cell 6 (some 2), .tmp 7]⟩

theorem x271_ok : chkFunc Go.Proofs.Tryz.prog (fun _ => true) x271 271 = true := by decide +kernel
end Go.Proofs.YtcpamijbhidheaaGreat
