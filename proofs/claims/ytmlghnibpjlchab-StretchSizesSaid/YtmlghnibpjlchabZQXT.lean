/- The table of the seat's functions. Printed by a program. -/
import Derived.Test.YtmlghnibpjlchabZQX1
import Derived.Test.YtmlghnibpjlchabChecked
set_option maxRecDepth 100000
namespace Go.Proofs.Ytmlghnibpjlchab
open Go.Vm
theorem prog_mixed:Go.Proofs.Try.prog.follows .mixedOrders=true:=Go.Proofs.Try.checked.mixed
def tabT:TT:= .node 10 (.node 6 (.node 4 (.leaf 3 (.code x3)) (.node 5 (.leaf 4 (.code x4)) (.leaf 5 (.code x5)))) (.node 8 (.node 7 (.leaf 6 (.code x6)) (.leaf 7 (.code x7))) (.node 9 (.leaf 8 (.code x8)) (.leaf 9 (.code x9))))) (.node 14 (.node 12 (.node 11 (.leaf 10 (.code x10)) (.leaf 11 (.code x11))) (.node 13 (.leaf 12 (.code x12)) (.leaf 13 (.code x13)))) (.node 16 (.node 15 (.leaf 14 (.code x14)) (.leaf 15 (.code x15))) (.node 17 (.leaf 16 (.code x16)) (.leaf 17 (.code x17)))))
theorem tab_all:tabT.All (EntOK Go.Proofs.Try.prog):=⟨⟨⟨x3_ok,⟨x4_ok,x5_ok⟩⟩,⟨⟨x6_ok,x7_ok⟩,⟨x8_ok,x9_ok⟩⟩⟩,⟨⟨⟨x10_ok,x11_ok⟩,⟨x12_ok,x13_ok⟩⟩,⟨⟨x14_ok,x15_ok⟩,⟨x16_ok,x17_ok⟩⟩⟩⟩
def tab:Tab:=tabT.get
theorem tab_3:tab 3=some (.code x3):=rfl
theorem tab_4:tab 4=some (.code x4):=rfl
theorem tab_5:tab 5=some (.code x5):=rfl
theorem tab_6:tab 6=some (.code x6):=rfl
theorem tab_7:tab 7=some (.code x7):=rfl
theorem tab_8:tab 8=some (.code x8):=rfl
theorem tab_9:tab 9=some (.code x9):=rfl
theorem tab_10:tab 10=some (.code x10):=rfl
theorem tab_11:tab 11=some (.code x11):=rfl
theorem tab_12:tab 12=some (.code x12):=rfl
theorem tab_13:tab 13=some (.code x13):=rfl
theorem tab_14:tab 14=some (.code x14):=rfl
theorem tab_15:tab 15=some (.code x15):=rfl
theorem tab_16:tab 16=some (.code x16):=rfl
theorem tab_17:tab 17=some (.code x17):=rfl
end Go.Proofs.Ytmlghnibpjlchab
