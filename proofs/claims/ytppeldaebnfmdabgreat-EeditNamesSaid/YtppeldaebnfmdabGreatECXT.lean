/- The table of the seat's functions. Printed by a program. -/
import Derived.Test.YtppeldaebnfmdabGreatECX1
import Derived.Test.YtppeldaebnfmdabGreatECX2
import Derived.Test.YtppeldaebnfmdabGreatChecked
set_option maxRecDepth 100000
namespace Go.Proofs.YtppeldaebnfmdabGreat
open Go.Vm
theorem prog_mixed : Go.Proofs.Tryz.prog.follows .mixedOrders = true := Go.Proofs.Tryz.checked.mixed
theorem x37_ok : EntOK Go.Proofs.Tryz.prog 37 (.prim false (pClone 3)) := ⟨rfl, prim_clone prog_mixed (zero := [.int .i64 0, .int .i64 0, .int .i64 0]) (by decide +kernel)⟩
theorem x93_ok : EntOK Go.Proofs.Tryz.prog 93 (.prim false (pClone 3)) := ⟨rfl, prim_clone prog_mixed (zero := [.int .i64 0, .int .i64 0, .int .i64 0]) (by decide +kernel)⟩
theorem x94_ok : EntOK Go.Proofs.Tryz.prog 94 (.prim false (pClone 3)) := ⟨rfl, prim_clone prog_mixed (zero := [.int .i64 0, .int .i64 0, .int .i64 0]) (by decide +kernel)⟩
theorem x95_ok : EntOK Go.Proofs.Tryz.prog 95 (.prim false (pClone 5)) := ⟨rfl, prim_clone prog_mixed (zero := [.int .i64 0, .int .i64 0, .int .i64 0, .int .i64 0, .int .i64 0]) (by decide +kernel)⟩
theorem x96_ok : EntOK Go.Proofs.Tryz.prog 96 (.prim false (pClone 1)) := ⟨rfl, prim_clone prog_mixed (zero := [.int .i64 0]) (by decide +kernel)⟩
theorem x97_ok : EntOK Go.Proofs.Tryz.prog 97 (.prim false (pClone 1)) := ⟨rfl, prim_clone prog_mixed (zero := [.bool false]) (by decide +kernel)⟩
theorem x147_ok : EntOK Go.Proofs.Tryz.prog 147 (.prim false pAdd64) := ⟨rfl, prim_add64 Go.Proofs.Tryz.func147 (by kernel_rfl) (by kernel_rfl) (by kernel_rfl) (by kernel_rfl)⟩
theorem x185_ok : EntOK Go.Proofs.Tryz.prog 185 (.prim false (pClone 1)) := ⟨rfl, prim_clone prog_mixed (zero := [.int .i64 0]) (by decide +kernel)⟩
def tabT : TT := .node 99 (.node 50 (.node 26 (.node 14 (.node 8 (.node 5 (.node 4 (.leaf 3 (.code x3)) (.leaf 4 (.code x4))) (.node 6 (.leaf 5 (.code x5)) (.node 7 (.leaf 6 (.code x6)) (.leaf 7 (.code x7))))) (.node 11 (.node 9 (.leaf 8 (.code x8)) (.node 10 (.leaf 9 (.code x9)) (.leaf 10 (.code x10)))) (.node 12 (.leaf 11 (.code x11)) (.node 13 (.leaf 12 (.code x12)) (.leaf 13 (.code x13)))))) (.node 20 (.node 17 (.node 15 (.leaf 14 (.code x14)) (.node 16 (.leaf 15 (.code x15)) (.leaf 16 (.code x16)))) (.node 18 (.leaf 17 (.code x17)) (.node 19 (.leaf 18 (.code x18)) (.leaf 19 (.code x19))))) (.node 23 (.node 21 (.leaf 20 (.code x20)) (.node 22 (.leaf 21 (.code x21)) (.leaf 22 (.code x22)))) (.node 24 (.leaf 23 (.code x23)) (.node 25 (.leaf 24 (.code x24)) (.leaf 25 (.code x25))))))) (.node 38 (.node 32 (.node 29 (.node 27 (.leaf 26 (.code x26)) (.node 28 (.leaf 27 (.code x27)) (.leaf 28 (.code x28)))) (.node 30 (.leaf 29 (.code x29)) (.node 31 (.leaf 30 (.code x30)) (.leaf 31 (.code x31))))) (.node 35 (.node 33 (.leaf 32 (.code x32)) (.node 34 (.leaf 33 (.code x33)) (.leaf 34 (.code x34)))) (.node 36 (.leaf 35 (.code x35)) (.node 37 (.leaf 36 (.code x36)) (.leaf 37 (.prim false (pClone 3))))))) (.node 44 (.node 41 (.node 39 (.leaf 38 (.code x38)) (.node 40 (.leaf 39 (.code x39)) (.leaf 40 (.code x40)))) (.node 42 (.leaf 41 (.code x41)) (.node 43 (.leaf 42 (.code x42)) (.leaf 43 (.code x43))))) (.node 47 (.node 45 (.leaf 44 (.code x44)) (.node 46 (.leaf 45 (.code x45)) (.leaf 46 (.code x46)))) (.node 48 (.leaf 47 (.code x47)) (.node 49 (.leaf 48 (.code x48)) (.leaf 49 (.code x49)))))))) (.node 75 (.node 62 (.node 56 (.node 53 (.node 51 (.leaf 50 (.code x50)) (.node 52 (.leaf 51 (.code x51)) (.leaf 52 (.code x52)))) (.node 54 (.leaf 53 (.code x53)) (.node 55 (.leaf 54 (.code x54)) (.leaf 55 (.code x55))))) (.node 59 (.node 57 (.leaf 56 (.code x56)) (.node 58 (.leaf 57 (.code x57)) (.leaf 58 (.code x58)))) (.node 60 (.leaf 59 (.code x59)) (.node 61 (.leaf 60 (.code x60)) (.leaf 61 (.code x61)))))) (.node 69 (.node 65 (.node 63 (.leaf 62 (.code x62)) (.node 64 (.leaf 63 (.code x63)) (.leaf 64 (.code x64)))) (.node 66 (.leaf 65 (.code x65)) (.node 68 (.leaf 66 (.code x66)) (.leaf 68 (.code x68))))) (.node 72 (.node 70 (.leaf 69 (.code x69)) (.node 71 (.leaf 70 (.code x70)) (.leaf 71 (.code x71)))) (.node 73 (.leaf 72 (.code x72)) (.node 74 (.leaf 73 (.code x73)) (.leaf 74 (.code x74))))))) (.node 87 (.node 81 (.node 78 (.node 76 (.leaf 75 (.code x75)) (.node 77 (.leaf 76 (.code x76)) (.leaf 77 (.code x77)))) (.node 79 (.leaf 78 (.code x78)) (.node 80 (.leaf 79 (.code x79)) (.leaf 80 (.code x80))))) (.node 84 (.node 82 (.leaf 81 (.code x81)) (.node 83 (.leaf 82 (.code x82)) (.leaf 83 (.code x83)))) (.node 85 (.leaf 84 (.code x84)) (.node 86 (.leaf 85 (.code x85)) (.leaf 86 (.code x86)))))) (.node 93 (.node 90 (.node 88 (.leaf 87 (.code x87)) (.node 89 (.leaf 88 (.code x88)) (.leaf 89 (.code x89)))) (.node 91 (.leaf 90 (.code x90)) (.node 92 (.leaf 91 (.code x91)) (.leaf 92 (.code x92))))) (.node 96 (.node 94 (.leaf 93 (.prim false (pClone 3))) (.node 95 (.leaf 94 (.prim false (pClone 3))) (.leaf 95 (.prim false (pClone 5))))) (.node 97 (.leaf 96 (.prim false (pClone 1))) (.node 98 (.leaf 97 (.prim false (pClone 1))) (.leaf 98 (.code x98))))))))) (.node 147 (.node 123 (.node 111 (.node 105 (.node 102 (.node 100 (.leaf 99 (.code x99)) (.node 101 (.leaf 100 (.code x100)) (.leaf 101 (.code x101)))) (.node 103 (.leaf 102 (.code x102)) (.node 104 (.leaf 103 (.code x103)) (.leaf 104 (.code x104))))) (.node 108 (.node 106 (.leaf 105 (.code x105)) (.node 107 (.leaf 106 (.code x106)) (.leaf 107 (.code x107)))) (.node 109 (.leaf 108 (.code x108)) (.node 110 (.leaf 109 (.code x109)) (.leaf 110 (.code x110)))))) (.node 117 (.node 114 (.node 112 (.leaf 111 (.code x111)) (.node 113 (.leaf 112 (.code x112)) (.leaf 113 (.code x113)))) (.node 115 (.leaf 114 (.code x114)) (.node 116 (.leaf 115 (.code x115)) (.leaf 116 (.code x116))))) (.node 120 (.node 118 (.leaf 117 (.code x117)) (.node 119 (.leaf 118 (.code x118)) (.leaf 119 (.code x119)))) (.node 121 (.leaf 120 (.code x120)) (.node 122 (.leaf 121 (.code x121)) (.leaf 122 (.code x122))))))) (.node 135 (.node 129 (.node 126 (.node 124 (.leaf 123 (.code x123)) (.node 125 (.leaf 124 (.code x124)) (.leaf 125 (.code x125)))) (.node 127 (.leaf 126 (.code x126)) (.node 128 (.leaf 127 (.code x127)) (.leaf 128 (.code x128))))) (.node 132 (.node 130 (.leaf 129 (.code x129)) (.node 131 (.leaf 130 (.code x130)) (.leaf 131 (.code x131)))) (.node 133 (.leaf 132 (.code x132)) (.node 134 (.leaf 133 (.code x133)) (.leaf 134 (.code x134)))))) (.node 141 (.node 138 (.node 136 (.leaf 135 (.code x135)) (.node 137 (.leaf 136 (.code x136)) (.leaf 137 (.code x137)))) (.node 139 (.leaf 138 (.code x138)) (.node 140 (.leaf 139 (.code x139)) (.leaf 140 (.code x140))))) (.node 144 (.node 142 (.leaf 141 (.code x141)) (.node 143 (.leaf 142 (.code x142)) (.leaf 143 (.code x143)))) (.node 145 (.leaf 144 (.code x144)) (.node 146 (.leaf 145 (.code x145)) (.leaf 146 (.code x146)))))))) (.node 171 (.node 159 (.node 153 (.node 150 (.node 148 (.leaf 147 (.prim false pAdd64)) (.node 149 (.leaf 148 (.code x148)) (.leaf 149 (.code x149)))) (.node 151 (.leaf 150 (.code x150)) (.node 152 (.leaf 151 (.code x151)) (.leaf 152 (.code x152))))) (.node 156 (.node 154 (.leaf 153 (.code x153)) (.node 155 (.leaf 154 (.code x154)) (.leaf 155 (.code x155)))) (.node 157 (.leaf 156 (.code x156)) (.node 158 (.leaf 157 (.code x157)) (.leaf 158 (.code x158)))))) (.node 165 (.node 162 (.node 160 (.leaf 159 (.code x159)) (.node 161 (.leaf 160 (.code x160)) (.leaf 161 (.code x161)))) (.node 163 (.leaf 162 (.code x162)) (.node 164 (.leaf 163 (.code x163)) (.leaf 164 (.code x164))))) (.node 168 (.node 166 (.leaf 165 (.code x165)) (.node 167 (.leaf 166 (.code x166)) (.leaf 167 (.code x167)))) (.node 169 (.leaf 168 (.code x168)) (.node 170 (.leaf 169 (.code x169)) (.leaf 170 (.code x170))))))) (.node 183 (.node 177 (.node 174 (.node 172 (.leaf 171 (.code x171)) (.node 173 (.leaf 172 (.code x172)) (.leaf 173 (.code x173)))) (.node 175 (.leaf 174 (.code x174)) (.node 176 (.leaf 175 (.code x175)) (.leaf 176 (.code x176))))) (.node 180 (.node 178 (.leaf 177 (.code x177)) (.node 179 (.leaf 178 (.code x178)) (.leaf 179 (.code x179)))) (.node 181 (.leaf 180 (.code x180)) (.node 182 (.leaf 181 (.code x181)) (.leaf 182 (.code x182)))))) (.node 189 (.node 186 (.node 184 (.leaf 183 (.code x183)) (.node 185 (.leaf 184 (.code x184)) (.leaf 185 (.prim false (pClone 1))))) (.node 187 (.leaf 186 (.code x186)) (.node 188 (.leaf 187 (.code x187)) (.leaf 188 (.code x188))))) (.node 192 (.node 190 (.leaf 189 (.code x189)) (.node 191 (.leaf 190 (.code x190)) (.leaf 191 (.code x191)))) (.node 193 (.leaf 192 (.code x192)) (.node 194 (.leaf 193 (.code x193)) (.leaf 194 (.code x194)))))))))
theorem tab_all : tabT.All (EntOK Go.Proofs.Tryz.prog) := ⟨⟨⟨⟨⟨⟨⟨x3_ok, x4_ok⟩, ⟨x5_ok, ⟨x6_ok, x7_ok⟩⟩⟩, ⟨⟨x8_ok, ⟨x9_ok, x10_ok⟩⟩, ⟨x11_ok, ⟨x12_ok, x13_ok⟩⟩⟩⟩, ⟨⟨⟨x14_ok, ⟨x15_ok, x16_ok⟩⟩, ⟨x17_ok, ⟨x18_ok, x19_ok⟩⟩⟩, ⟨⟨x20_ok, ⟨x21_ok, x22_ok⟩⟩, ⟨x23_ok, ⟨x24_ok, x25_ok⟩⟩⟩⟩⟩, ⟨⟨⟨⟨x26_ok, ⟨x27_ok, x28_ok⟩⟩, ⟨x29_ok, ⟨x30_ok, x31_ok⟩⟩⟩, ⟨⟨x32_ok, ⟨x33_ok, x34_ok⟩⟩, ⟨x35_ok, ⟨x36_ok, x37_ok⟩⟩⟩⟩, ⟨⟨⟨x38_ok, ⟨x39_ok, x40_ok⟩⟩, ⟨x41_ok, ⟨x42_ok, x43_ok⟩⟩⟩, ⟨⟨x44_ok, ⟨x45_ok, x46_ok⟩⟩, ⟨x47_ok, ⟨x48_ok, x49_ok⟩⟩⟩⟩⟩⟩, ⟨⟨⟨⟨⟨x50_ok, ⟨x51_ok, x52_ok⟩⟩, ⟨x53_ok, ⟨x54_ok, x55_ok⟩⟩⟩, ⟨⟨x56_ok, ⟨x57_ok, x58_ok⟩⟩, ⟨x59_ok, ⟨x60_ok, x61_ok⟩⟩⟩⟩, ⟨⟨⟨x62_ok, ⟨x63_ok, x64_ok⟩⟩, ⟨x65_ok, ⟨x66_ok, x68_ok⟩⟩⟩, ⟨⟨x69_ok, ⟨x70_ok, x71_ok⟩⟩, ⟨x72_ok, ⟨x73_ok, x74_ok⟩⟩⟩⟩⟩, ⟨⟨⟨⟨x75_ok, ⟨x76_ok, x77_ok⟩⟩, ⟨x78_ok, ⟨x79_ok, x80_ok⟩⟩⟩, ⟨⟨x81_ok, ⟨x82_ok, x83_ok⟩⟩, ⟨x84_ok, ⟨x85_ok, x86_ok⟩⟩⟩⟩, ⟨⟨⟨x87_ok, ⟨x88_ok, x89_ok⟩⟩, ⟨x90_ok, ⟨x91_ok, x92_ok⟩⟩⟩, ⟨⟨x93_ok, ⟨x94_ok, x95_ok⟩⟩, ⟨x96_ok, ⟨x97_ok, x98_ok⟩⟩⟩⟩⟩⟩⟩, ⟨⟨⟨⟨⟨⟨x99_ok, ⟨x100_ok, x101_ok⟩⟩, ⟨x102_ok, ⟨x103_ok, x104_ok⟩⟩⟩, ⟨⟨x105_ok, ⟨x106_ok, x107_ok⟩⟩, ⟨x108_ok, ⟨x109_ok, x110_ok⟩⟩⟩⟩, ⟨⟨⟨x111_ok, ⟨x112_ok, x113_ok⟩⟩, ⟨x114_ok, ⟨x115_ok, x116_ok⟩⟩⟩, ⟨⟨x117_ok, ⟨x118_ok, x119_ok⟩⟩, ⟨x120_ok, ⟨x121_ok, x122_ok⟩⟩⟩⟩⟩, ⟨⟨⟨⟨x123_ok, ⟨x124_ok, x125_ok⟩⟩, ⟨x126_ok, ⟨x127_ok, x128_ok⟩⟩⟩, ⟨⟨x129_ok, ⟨x130_ok, x131_ok⟩⟩, ⟨x132_ok, ⟨x133_ok, x134_ok⟩⟩⟩⟩, ⟨⟨⟨x135_ok, ⟨x136_ok, x137_ok⟩⟩, ⟨x138_ok, ⟨x139_ok, x140_ok⟩⟩⟩, ⟨⟨x141_ok, ⟨x142_ok, x143_ok⟩⟩, ⟨x144_ok, ⟨x145_ok, x146_ok⟩⟩⟩⟩⟩⟩, ⟨⟨⟨⟨⟨x147_ok, ⟨x148_ok, x149_ok⟩⟩, ⟨x150_ok, ⟨x151_ok, x152_ok⟩⟩⟩, ⟨⟨x153_ok, ⟨x154_ok, x155_ok⟩⟩, ⟨x156_ok, ⟨x157_ok, x158_ok⟩⟩⟩⟩, ⟨⟨⟨x159_ok, ⟨x160_ok, x161_ok⟩⟩, ⟨x162_ok, ⟨x163_ok, x164_ok⟩⟩⟩, ⟨⟨x165_ok, ⟨x166_ok, x167_ok⟩⟩, ⟨x168_ok, ⟨x169_ok, x170_ok⟩⟩⟩⟩⟩, ⟨⟨⟨⟨x171_ok, ⟨x172_ok, x173_ok⟩⟩, ⟨x174_ok, ⟨x175_ok, x176_ok⟩⟩⟩, ⟨⟨x177_ok, ⟨x178_ok, x179_ok⟩⟩, ⟨x180_ok, ⟨x181_ok, x182_ok⟩⟩⟩⟩, ⟨⟨⟨x183_ok, ⟨x184_ok, x185_ok⟩⟩, ⟨x186_ok, ⟨x187_ok, x188_ok⟩⟩⟩, ⟨⟨x189_ok, ⟨x190_ok, x191_ok⟩⟩, ⟨x192_ok, ⟨x193_ok, x194_ok⟩⟩⟩⟩⟩⟩⟩⟩
def tab : Tab := tabT.get
theorem tab_3 : tab 3 = some (.code x3) := rfl
theorem tab_4 : tab 4 = some (.code x4) := rfl
theorem tab_5 : tab 5 = some (.code x5) := rfl
theorem tab_6 : tab 6 = some (.code x6) := rfl
theorem tab_7 : tab 7 = some (.code x7) := rfl
theorem tab_8 : tab 8 = some (.code x8) := rfl
theorem tab_9 : tab 9 = some (.code x9) := rfl
theorem tab_10 : tab 10 = some (.code x10) := rfl
theorem tab_11 : tab 11 = some (.code x11) := rfl
theorem tab_12 : tab 12 = some (.code x12) := rfl
theorem tab_13 : tab 13 = some (.code x13) := rfl
theorem tab_14 : tab 14 = some (.code x14) := rfl
theorem tab_15 : tab 15 = some (.code x15) := rfl
theorem tab_16 : tab 16 = some (.code x16) := rfl
theorem tab_17 : tab 17 = some (.code x17) := rfl
theorem tab_18 : tab 18 = some (.code x18) := rfl
theorem tab_19 : tab 19 = some (.code x19) := rfl
theorem tab_20 : tab 20 = some (.code x20) := rfl
theorem tab_21 : tab 21 = some (.code x21) := rfl
theorem tab_22 : tab 22 = some (.code x22) := rfl
theorem tab_23 : tab 23 = some (.code x23) := rfl
theorem tab_24 : tab 24 = some (.code x24) := rfl
theorem tab_25 : tab 25 = some (.code x25) := rfl
theorem tab_26 : tab 26 = some (.code x26) := rfl
theorem tab_27 : tab 27 = some (.code x27) := rfl
theorem tab_28 : tab 28 = some (.code x28) := rfl
theorem tab_29 : tab 29 = some (.code x29) := rfl
theorem tab_30 : tab 30 = some (.code x30) := rfl
theorem tab_31 : tab 31 = some (.code x31) := rfl
theorem tab_32 : tab 32 = some (.code x32) := rfl
theorem tab_33 : tab 33 = some (.code x33) := rfl
theorem tab_34 : tab 34 = some (.code x34) := rfl
theorem tab_35 : tab 35 = some (.code x35) := rfl
theorem tab_36 : tab 36 = some (.code x36) := rfl
theorem tab_37 : tab 37 = some (.prim false (pClone 3)) := rfl
theorem tab_38 : tab 38 = some (.code x38) := rfl
theorem tab_39 : tab 39 = some (.code x39) := rfl
theorem tab_40 : tab 40 = some (.code x40) := rfl
theorem tab_41 : tab 41 = some (.code x41) := rfl
theorem tab_42 : tab 42 = some (.code x42) := rfl
theorem tab_43 : tab 43 = some (.code x43) := rfl
theorem tab_44 : tab 44 = some (.code x44) := rfl
theorem tab_45 : tab 45 = some (.code x45) := rfl
theorem tab_46 : tab 46 = some (.code x46) := rfl
theorem tab_47 : tab 47 = some (.code x47) := rfl
theorem tab_48 : tab 48 = some (.code x48) := rfl
theorem tab_49 : tab 49 = some (.code x49) := rfl
theorem tab_50 : tab 50 = some (.code x50) := rfl
theorem tab_51 : tab 51 = some (.code x51) := rfl
theorem tab_52 : tab 52 = some (.code x52) := rfl
theorem tab_53 : tab 53 = some (.code x53) := rfl
theorem tab_54 : tab 54 = some (.code x54) := rfl
theorem tab_55 : tab 55 = some (.code x55) := rfl
theorem tab_56 : tab 56 = some (.code x56) := rfl
theorem tab_57 : tab 57 = some (.code x57) := rfl
theorem tab_58 : tab 58 = some (.code x58) := rfl
theorem tab_59 : tab 59 = some (.code x59) := rfl
theorem tab_60 : tab 60 = some (.code x60) := rfl
theorem tab_61 : tab 61 = some (.code x61) := rfl
theorem tab_62 : tab 62 = some (.code x62) := rfl
theorem tab_63 : tab 63 = some (.code x63) := rfl
theorem tab_64 : tab 64 = some (.code x64) := rfl
theorem tab_65 : tab 65 = some (.code x65) := rfl
theorem tab_66 : tab 66 = some (.code x66) := rfl
theorem tab_68 : tab 68 = some (.code x68) := rfl
theorem tab_69 : tab 69 = some (.code x69) := rfl
theorem tab_70 : tab 70 = some (.code x70) := rfl
theorem tab_71 : tab 71 = some (.code x71) := rfl
theorem tab_72 : tab 72 = some (.code x72) := rfl
theorem tab_73 : tab 73 = some (.code x73) := rfl
theorem tab_74 : tab 74 = some (.code x74) := rfl
theorem tab_75 : tab 75 = some (.code x75) := rfl
theorem tab_76 : tab 76 = some (.code x76) := rfl
theorem tab_77 : tab 77 = some (.code x77) := rfl
theorem tab_78 : tab 78 = some (.code x78) := rfl
theorem tab_79 : tab 79 = some (.code x79) := rfl
theorem tab_80 : tab 80 = some (.code x80) := rfl
theorem tab_81 : tab 81 = some (.code x81) := rfl
theorem tab_82 : tab 82 = some (.code x82) := rfl
theorem tab_83 : tab 83 = some (.code x83) := rfl
theorem tab_84 : tab 84 = some (.code x84) := rfl
theorem tab_85 : tab 85 = some (.code x85) := rfl
theorem tab_86 : tab 86 = some (.code x86) := rfl
theorem tab_87 : tab 87 = some (.code x87) := rfl
theorem tab_88 : tab 88 = some (.code x88) := rfl
theorem tab_89 : tab 89 = some (.code x89) := rfl
theorem tab_90 : tab 90 = some (.code x90) := rfl
theorem tab_91 : tab 91 = some (.code x91) := rfl
theorem tab_92 : tab 92 = some (.code x92) := rfl
theorem tab_93 : tab 93 = some (.prim false (pClone 3)) := rfl
theorem tab_94 : tab 94 = some (.prim false (pClone 3)) := rfl
theorem tab_95 : tab 95 = some (.prim false (pClone 5)) := rfl
theorem tab_96 : tab 96 = some (.prim false (pClone 1)) := rfl
theorem tab_97 : tab 97 = some (.prim false (pClone 1)) := rfl
theorem tab_98 : tab 98 = some (.code x98) := rfl
theorem tab_99 : tab 99 = some (.code x99) := rfl
theorem tab_100 : tab 100 = some (.code x100) := rfl
theorem tab_101 : tab 101 = some (.code x101) := rfl
theorem tab_102 : tab 102 = some (.code x102) := rfl
theorem tab_103 : tab 103 = some (.code x103) := rfl
theorem tab_104 : tab 104 = some (.code x104) := rfl
theorem tab_105 : tab 105 = some (.code x105) := rfl
theorem tab_106 : tab 106 = some (.code x106) := rfl
theorem tab_107 : tab 107 = some (.code x107) := rfl
theorem tab_108 : tab 108 = some (.code x108) := rfl
theorem tab_109 : tab 109 = some (.code x109) := rfl
theorem tab_110 : tab 110 = some (.code x110) := rfl
theorem tab_111 : tab 111 = some (.code x111) := rfl
theorem tab_112 : tab 112 = some (.code x112) := rfl
theorem tab_113 : tab 113 = some (.code x113) := rfl
theorem tab_114 : tab 114 = some (.code x114) := rfl
theorem tab_115 : tab 115 = some (.code x115) := rfl
theorem tab_116 : tab 116 = some (.code x116) := rfl
theorem tab_117 : tab 117 = some (.code x117) := rfl
theorem tab_118 : tab 118 = some (.code x118) := rfl
theorem tab_119 : tab 119 = some (.code x119) := rfl
theorem tab_120 : tab 120 = some (.code x120) := rfl
theorem tab_121 : tab 121 = some (.code x121) := rfl
theorem tab_122 : tab 122 = some (.code x122) := rfl
theorem tab_123 : tab 123 = some (.code x123) := rfl
theorem tab_124 : tab 124 = some (.code x124) := rfl
theorem tab_125 : tab 125 = some (.code x125) := rfl
theorem tab_126 : tab 126 = some (.code x126) := rfl
theorem tab_127 : tab 127 = some (.code x127) := rfl
theorem tab_128 : tab 128 = some (.code x128) := rfl
theorem tab_129 : tab 129 = some (.code x129) := rfl
theorem tab_130 : tab 130 = some (.code x130) := rfl
theorem tab_131 : tab 131 = some (.code x131) := rfl
theorem tab_132 : tab 132 = some (.code x132) := rfl
theorem tab_133 : tab 133 = some (.code x133) := rfl
theorem tab_134 : tab 134 = some (.code x134) := rfl
theorem tab_135 : tab 135 = some (.code x135) := rfl
theorem tab_136 : tab 136 = some (.code x136) := rfl
theorem tab_137 : tab 137 = some (.code x137) := rfl
theorem tab_138 : tab 138 = some (.code x138) := rfl
theorem tab_139 : tab 139 = some (.code x139) := rfl
theorem tab_140 : tab 140 = some (.code x140) := rfl
theorem tab_141 : tab 141 = some (.code x141) := rfl
theorem tab_142 : tab 142 = some (.code x142) := rfl
theorem tab_143 : tab 143 = some (.code x143) := rfl
theorem tab_144 : tab 144 = some (.code x144) := rfl
theorem tab_145 : tab 145 = some (.code x145) := rfl
theorem tab_146 : tab 146 = some (.code x146) := rfl
theorem tab_147 : tab 147 = some (.prim false pAdd64) := rfl
theorem tab_148 : tab 148 = some (.code x148) := rfl
theorem tab_149 : tab 149 = some (.code x149) := rfl
theorem tab_150 : tab 150 = some (.code x150) := rfl
theorem tab_151 : tab 151 = some (.code x151) := rfl
theorem tab_152 : tab 152 = some (.code x152) := rfl
theorem tab_153 : tab 153 = some (.code x153) := rfl
theorem tab_154 : tab 154 = some (.code x154) := rfl
theorem tab_155 : tab 155 = some (.code x155) := rfl
theorem tab_156 : tab 156 = some (.code x156) := rfl
theorem tab_157 : tab 157 = some (.code x157) := rfl
theorem tab_158 : tab 158 = some (.code x158) := rfl
theorem tab_159 : tab 159 = some (.code x159) := rfl
theorem tab_160 : tab 160 = some (.code x160) := rfl
theorem tab_161 : tab 161 = some (.code x161) := rfl
theorem tab_162 : tab 162 = some (.code x162) := rfl
theorem tab_163 : tab 163 = some (.code x163) := rfl
theorem tab_164 : tab 164 = some (.code x164) := rfl
theorem tab_165 : tab 165 = some (.code x165) := rfl
theorem tab_166 : tab 166 = some (.code x166) := rfl
theorem tab_167 : tab 167 = some (.code x167) := rfl
theorem tab_168 : tab 168 = some (.code x168) := rfl
theorem tab_169 : tab 169 = some (.code x169) := rfl
theorem tab_170 : tab 170 = some (.code x170) := rfl
theorem tab_171 : tab 171 = some (.code x171) := rfl
theorem tab_172 : tab 172 = some (.code x172) := rfl
theorem tab_173 : tab 173 = some (.code x173) := rfl
theorem tab_174 : tab 174 = some (.code x174) := rfl
theorem tab_175 : tab 175 = some (.code x175) := rfl
theorem tab_176 : tab 176 = some (.code x176) := rfl
theorem tab_177 : tab 177 = some (.code x177) := rfl
theorem tab_178 : tab 178 = some (.code x178) := rfl
theorem tab_179 : tab 179 = some (.code x179) := rfl
theorem tab_180 : tab 180 = some (.code x180) := rfl
theorem tab_181 : tab 181 = some (.code x181) := rfl
theorem tab_182 : tab 182 = some (.code x182) := rfl
theorem tab_183 : tab 183 = some (.code x183) := rfl
theorem tab_184 : tab 184 = some (.code x184) := rfl
theorem tab_185 : tab 185 = some (.prim false (pClone 1)) := rfl
theorem tab_186 : tab 186 = some (.code x186) := rfl
theorem tab_187 : tab 187 = some (.code x187) := rfl
theorem tab_188 : tab 188 = some (.code x188) := rfl
theorem tab_189 : tab 189 = some (.code x189) := rfl
theorem tab_190 : tab 190 = some (.code x190) := rfl
theorem tab_191 : tab 191 = some (.code x191) := rfl
theorem tab_192 : tab 192 = some (.code x192) := rfl
theorem tab_193 : tab 193 = some (.code x193) := rfl
theorem tab_194 : tab 194 = some (.code x194) := rfl
end Go.Proofs.YtppeldaebnfmdabGreat
