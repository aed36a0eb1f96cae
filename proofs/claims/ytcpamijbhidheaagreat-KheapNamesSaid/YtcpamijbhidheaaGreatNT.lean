/- The table of the seat's functions. Printed by a program. -/
import Derived.Test.YtcpamijbhidheaaGreatN1
import Derived.Test.YtcpamijbhidheaaGreatN2
import Derived.Test.YtcpamijbhidheaaGreatChecked
set_option maxRecDepth 100000
namespace Go.Proofs.YtcpamijbhidheaaGreat
open Go.Vm
theorem prog_mixed : Go.Proofs.Tryz.prog.follows .mixedOrders = true := Go.Proofs.Tryz.checked.mixed
theorem x69_ok : EntOK Go.Proofs.Tryz.prog 69 (.prim false (pClone 1)) := ⟨rfl, prim_clone prog_mixed (zero := [.int .i64 0]) (by decide +kernel)⟩
theorem x112_ok : EntOK Go.Proofs.Tryz.prog 112 (.prim false (pClone 3)) := ⟨rfl, prim_clone prog_mixed (zero := [.int .i64 0, .int .i64 0, .int .i64 0]) (by decide +kernel)⟩
theorem x113_ok : EntOK Go.Proofs.Tryz.prog 113 (.prim false (pClone 3)) := ⟨rfl, prim_clone prog_mixed (zero := [.int .i64 0, .int .i64 0, .int .i64 0]) (by decide +kernel)⟩
theorem x114_ok : EntOK Go.Proofs.Tryz.prog 114 (.prim false (pClone 3)) := ⟨rfl, prim_clone prog_mixed (zero := [.int .i64 0, .int .i64 0, .int .i64 0]) (by decide +kernel)⟩
theorem x115_ok : EntOK Go.Proofs.Tryz.prog 115 (.prim false (pClone 5)) := ⟨rfl, prim_clone prog_mixed (zero := [.int .i64 0, .int .i64 0, .int .i64 0, .int .i64 0, .int .i64 0]) (by decide +kernel)⟩
theorem x116_ok : EntOK Go.Proofs.Tryz.prog 116 (.prim false (pClone 1)) := ⟨rfl, prim_clone prog_mixed (zero := [.bool false]) (by decide +kernel)⟩
theorem x258_ok : EntOK Go.Proofs.Tryz.prog 258 (.prim false pAdd64) := ⟨rfl, prim_add64 Go.Proofs.Tryz.func258 (by kernel_rfl) (by kernel_rfl) (by kernel_rfl) (by kernel_rfl)⟩
theorem x269_ok : EntOK Go.Proofs.Tryz.prog 269 (.prim false (pClone 1)) := ⟨rfl, prim_clone prog_mixed (zero := [.int .i64 0]) (by decide +kernel)⟩
def tabT : TT := .node 137 (.node 82 (.node 53 (.node 33 (.node 22 (.node 13 (.node 12 (.leaf 7 (.code x7)) (.leaf 12 (.code x12))) (.node 18 (.leaf 13 (.code x13)) (.node 19 (.leaf 18 (.code x18)) (.leaf 19 (.code x19))))) (.node 27 (.node 23 (.leaf 22 (.code x22)) (.node 25 (.leaf 23 (.code x23)) (.leaf 25 (.code x25)))) (.node 29 (.leaf 27 (.code x27)) (.node 31 (.leaf 29 (.code x29)) (.leaf 31 (.code x31)))))) (.node 39 (.node 36 (.node 35 (.leaf 33 (.code x33)) (.leaf 35 (.code x35))) (.node 37 (.leaf 36 (.code x36)) (.node 38 (.leaf 37 (.code x37)) (.leaf 38 (.code x38))))) (.node 48 (.node 41 (.leaf 39 (.code x39)) (.node 42 (.leaf 41 (.code x41)) (.leaf 42 (.code x42)))) (.node 51 (.leaf 48 (.code x48)) (.node 52 (.leaf 51 (.code x51)) (.leaf 52 (.code x52))))))) (.node 68 (.node 58 (.node 55 (.node 54 (.leaf 53 (.code x53)) (.leaf 54 (.code x54))) (.node 56 (.leaf 55 (.code x55)) (.node 57 (.leaf 56 (.code x56)) (.leaf 57 (.code x57))))) (.node 65 (.node 59 (.leaf 58 (.code x58)) (.node 62 (.leaf 59 (.code x59)) (.leaf 62 (.code x62)))) (.node 66 (.leaf 65 (.code x65)) (.node 67 (.leaf 66 (.code x66)) (.leaf 67 (.code x67)))))) (.node 75 (.node 72 (.node 69 (.leaf 68 (.code x68)) (.leaf 69 (.prim false (pClone 1)))) (.node 73 (.leaf 72 (.code x72)) (.node 74 (.leaf 73 (.code x73)) (.leaf 74 (.code x74))))) (.node 78 (.node 76 (.leaf 75 (.code x75)) (.node 77 (.leaf 76 (.code x76)) (.leaf 77 (.code x77)))) (.node 79 (.leaf 78 (.code x78)) (.node 80 (.leaf 79 (.code x79)) (.leaf 80 (.code x80)))))))) (.node 110 (.node 99 (.node 87 (.node 84 (.node 83 (.leaf 82 (.code x82)) (.leaf 83 (.code x83))) (.node 85 (.leaf 84 (.code x84)) (.node 86 (.leaf 85 (.code x85)) (.leaf 86 (.code x86))))) (.node 91 (.node 88 (.leaf 87 (.code x87)) (.node 89 (.leaf 88 (.code x88)) (.leaf 89 (.code x89)))) (.node 93 (.leaf 91 (.code x91)) (.node 94 (.leaf 93 (.code x93)) (.leaf 94 (.code x94)))))) (.node 104 (.node 101 (.node 100 (.leaf 99 (.code x99)) (.leaf 100 (.code x100))) (.node 102 (.leaf 101 (.code x101)) (.node 103 (.leaf 102 (.code x102)) (.leaf 103 (.code x103))))) (.node 107 (.node 105 (.leaf 104 (.code x104)) (.node 106 (.leaf 105 (.code x105)) (.leaf 106 (.code x106)))) (.node 108 (.leaf 107 (.code x107)) (.node 109 (.leaf 108 (.code x108)) (.leaf 109 (.code x109))))))) (.node 124 (.node 115 (.node 112 (.node 111 (.leaf 110 (.code x110)) (.leaf 111 (.code x111))) (.node 113 (.leaf 112 (.prim false (pClone 3))) (.node 114 (.leaf 113 (.prim false (pClone 3))) (.leaf 114 (.prim false (pClone 3)))))) (.node 120 (.node 116 (.leaf 115 (.prim false (pClone 5))) (.node 117 (.leaf 116 (.prim false (pClone 1))) (.leaf 117 (.code x117)))) (.node 122 (.leaf 120 (.code x120)) (.node 123 (.leaf 122 (.code x122)) (.leaf 123 (.code x123)))))) (.node 131 (.node 128 (.node 125 (.leaf 124 (.code x124)) (.leaf 125 (.code x125))) (.node 129 (.leaf 128 (.code x128)) (.node 130 (.leaf 129 (.code x129)) (.leaf 130 (.code x130))))) (.node 134 (.node 132 (.leaf 131 (.code x131)) (.node 133 (.leaf 132 (.code x132)) (.leaf 133 (.code x133)))) (.node 135 (.leaf 134 (.code x134)) (.node 136 (.leaf 135 (.code x135)) (.leaf 136 (.code x136))))))))) (.node 201 (.node 170 (.node 155 (.node 145 (.node 142 (.node 141 (.leaf 137 (.code x137)) (.leaf 141 (.code x141))) (.node 143 (.leaf 142 (.code x142)) (.node 144 (.leaf 143 (.code x143)) (.leaf 144 (.code x144))))) (.node 148 (.node 146 (.leaf 145 (.code x145)) (.node 147 (.leaf 146 (.code x146)) (.leaf 147 (.code x147)))) (.node 149 (.leaf 148 (.code x148)) (.node 150 (.leaf 149 (.code x149)) (.leaf 150 (.code x150)))))) (.node 164 (.node 161 (.node 160 (.leaf 155 (.code x155)) (.leaf 160 (.code x160))) (.node 162 (.leaf 161 (.code x161)) (.node 163 (.leaf 162 (.code x162)) (.leaf 163 (.code x163))))) (.node 167 (.node 165 (.leaf 164 (.code x164)) (.node 166 (.leaf 165 (.code x165)) (.leaf 166 (.code x166)))) (.node 168 (.leaf 167 (.code x167)) (.node 169 (.leaf 168 (.code x168)) (.leaf 169 (.code x169))))))) (.node 185 (.node 177 (.node 172 (.node 171 (.leaf 170 (.code x170)) (.leaf 171 (.code x171))) (.node 173 (.leaf 172 (.code x172)) (.node 174 (.leaf 173 (.code x173)) (.leaf 174 (.code x174))))) (.node 181 (.node 178 (.leaf 177 (.code x177)) (.node 180 (.leaf 178 (.code x178)) (.leaf 180 (.code x180)))) (.node 182 (.leaf 181 (.code x181)) (.node 183 (.leaf 182 (.code x182)) (.leaf 183 (.code x183)))))) (.node 191 (.node 187 (.node 186 (.leaf 185 (.code x185)) (.leaf 186 (.code x186))) (.node 189 (.leaf 187 (.code x187)) (.node 190 (.leaf 189 (.code x189)) (.leaf 190 (.code x190))))) (.node 194 (.node 192 (.leaf 191 (.code x191)) (.node 193 (.leaf 192 (.code x192)) (.leaf 193 (.code x193)))) (.node 198 (.leaf 194 (.code x194)) (.node 200 (.leaf 198 (.code x198)) (.leaf 200 (.code x200)))))))) (.node 223 (.node 212 (.node 206 (.node 203 (.node 202 (.leaf 201 (.code x201)) (.leaf 202 (.code x202))) (.node 204 (.leaf 203 (.code x203)) (.node 205 (.leaf 204 (.code x204)) (.leaf 205 (.code x205))))) (.node 209 (.node 207 (.leaf 206 (.code x206)) (.node 208 (.leaf 207 (.code x207)) (.leaf 208 (.code x208)))) (.node 210 (.leaf 209 (.code x209)) (.node 211 (.leaf 210 (.code x210)) (.leaf 211 (.code x211)))))) (.node 217 (.node 214 (.node 213 (.leaf 212 (.code x212)) (.leaf 213 (.code x213))) (.node 215 (.leaf 214 (.code x214)) (.node 216 (.leaf 215 (.code x215)) (.leaf 216 (.code x216))))) (.node 220 (.node 218 (.leaf 217 (.code x217)) (.node 219 (.leaf 218 (.code x218)) (.leaf 219 (.code x219)))) (.node 221 (.leaf 220 (.code x220)) (.node 222 (.leaf 221 (.code x221)) (.leaf 222 (.code x222))))))) (.node 252 (.node 246 (.node 225 (.node 224 (.leaf 223 (.code x223)) (.leaf 224 (.code x224))) (.node 236 (.leaf 225 (.code x225)) (.node 245 (.leaf 236 (.code x236)) (.leaf 245 (.code x245))))) (.node 249 (.node 247 (.leaf 246 (.code x246)) (.node 248 (.leaf 247 (.code x247)) (.leaf 248 (.code x248)))) (.node 250 (.leaf 249 (.code x249)) (.node 251 (.leaf 250 (.code x250)) (.leaf 251 (.code x251)))))) (.node 258 (.node 255 (.node 253 (.leaf 252 (.code x252)) (.node 254 (.leaf 253 (.code x253)) (.leaf 254 (.code x254)))) (.node 256 (.leaf 255 (.code x255)) (.node 257 (.leaf 256 (.code x256)) (.leaf 257 (.code x257))))) (.node 269 (.node 267 (.leaf 258 (.prim false pAdd64)) (.node 268 (.leaf 267 (.code x267)) (.leaf 268 (.code x268)))) (.node 270 (.leaf 269 (.prim false (pClone 1))) (.node 271 (.leaf 270 (.code x270)) (.leaf 271 (.code x271)))))))))
theorem tab_all : tabT.All (EntOK Go.Proofs.Tryz.prog) := ⟨⟨⟨⟨⟨⟨⟨x7_ok, x12_ok⟩, ⟨x13_ok, ⟨x18_ok, x19_ok⟩⟩⟩, ⟨⟨x22_ok, ⟨x23_ok, x25_ok⟩⟩, ⟨x27_ok, ⟨x29_ok, x31_ok⟩⟩⟩⟩, ⟨⟨⟨x33_ok, x35_ok⟩, ⟨x36_ok, ⟨x37_ok, x38_ok⟩⟩⟩, ⟨⟨x39_ok, ⟨x41_ok, x42_ok⟩⟩, ⟨x48_ok, ⟨x51_ok, x52_ok⟩⟩⟩⟩⟩, ⟨⟨⟨⟨x53_ok, x54_ok⟩, ⟨x55_ok, ⟨x56_ok, x57_ok⟩⟩⟩, ⟨⟨x58_ok, ⟨x59_ok, x62_ok⟩⟩, ⟨x65_ok, ⟨x66_ok, x67_ok⟩⟩⟩⟩, ⟨⟨⟨x68_ok, x69_ok⟩, ⟨x72_ok, ⟨x73_ok, x74_ok⟩⟩⟩, ⟨⟨x75_ok, ⟨x76_ok, x77_ok⟩⟩, ⟨x78_ok, ⟨x79_ok, x80_ok⟩⟩⟩⟩⟩⟩, ⟨⟨⟨⟨⟨x82_ok, x83_ok⟩, ⟨x84_ok, ⟨x85_ok, x86_ok⟩⟩⟩, ⟨⟨x87_ok, ⟨x88_ok, x89_ok⟩⟩, ⟨x91_ok, ⟨x93_ok, x94_ok⟩⟩⟩⟩, ⟨⟨⟨x99_ok, x100_ok⟩, ⟨x101_ok, ⟨x102_ok, x103_ok⟩⟩⟩, ⟨⟨x104_ok, ⟨x105_ok, x106_ok⟩⟩, ⟨x107_ok, ⟨x108_ok, x109_ok⟩⟩⟩⟩⟩, ⟨⟨⟨⟨x110_ok, x111_ok⟩, ⟨x112_ok, ⟨x113_ok, x114_ok⟩⟩⟩, ⟨⟨x115_ok, ⟨x116_ok, x117_ok⟩⟩, ⟨x120_ok, ⟨x122_ok, x123_ok⟩⟩⟩⟩, ⟨⟨⟨x124_ok, x125_ok⟩, ⟨x128_ok, ⟨x129_ok, x130_ok⟩⟩⟩, ⟨⟨x131_ok, ⟨x132_ok, x133_ok⟩⟩, ⟨x134_ok, ⟨x135_ok, x136_ok⟩⟩⟩⟩⟩⟩⟩, ⟨⟨⟨⟨⟨⟨x137_ok, x141_ok⟩, ⟨x142_ok, ⟨x143_ok, x144_ok⟩⟩⟩, ⟨⟨x145_ok, ⟨x146_ok, x147_ok⟩⟩, ⟨x148_ok, ⟨x149_ok, x150_ok⟩⟩⟩⟩, ⟨⟨⟨x155_ok, x160_ok⟩, ⟨x161_ok, ⟨x162_ok, x163_ok⟩⟩⟩, ⟨⟨x164_ok, ⟨x165_ok, x166_ok⟩⟩, ⟨x167_ok, ⟨x168_ok, x169_ok⟩⟩⟩⟩⟩, ⟨⟨⟨⟨x170_ok, x171_ok⟩, ⟨x172_ok, ⟨x173_ok, x174_ok⟩⟩⟩, ⟨⟨x177_ok, ⟨x178_ok, x180_ok⟩⟩, ⟨x181_ok, ⟨x182_ok, x183_ok⟩⟩⟩⟩, ⟨⟨⟨x185_ok, x186_ok⟩, ⟨x187_ok, ⟨x189_ok, x190_ok⟩⟩⟩, ⟨⟨x191_ok, ⟨x192_ok, x193_ok⟩⟩, ⟨x194_ok, ⟨x198_ok, x200_ok⟩⟩⟩⟩⟩⟩, ⟨⟨⟨⟨⟨x201_ok, x202_ok⟩, ⟨x203_ok, ⟨x204_ok, x205_ok⟩⟩⟩, ⟨⟨x206_ok, ⟨x207_ok, x208_ok⟩⟩, ⟨x209_ok, ⟨x210_ok, x211_ok⟩⟩⟩⟩, ⟨⟨⟨x212_ok, x213_ok⟩, ⟨x214_ok, ⟨x215_ok, x216_ok⟩⟩⟩, ⟨⟨x217_ok, ⟨x218_ok, x219_ok⟩⟩, ⟨x220_ok, ⟨x221_ok, x222_ok⟩⟩⟩⟩⟩, ⟨⟨⟨⟨x223_ok, x224_ok⟩, ⟨x225_ok, ⟨x236_ok, x245_ok⟩⟩⟩, ⟨⟨x246_ok, ⟨x247_ok, x248_ok⟩⟩, ⟨x249_ok, ⟨x250_ok, x251_ok⟩⟩⟩⟩, ⟨⟨⟨x252_ok, ⟨x253_ok, x254_ok⟩⟩, ⟨x255_ok, ⟨x256_ok, x257_ok⟩⟩⟩, ⟨⟨x258_ok, ⟨x267_ok, x268_ok⟩⟩, ⟨x269_ok, ⟨x270_ok, x271_ok⟩⟩⟩⟩⟩⟩⟩⟩
def tab : Tab := tabT.get
theorem tab_7 : tab 7 = some (.code x7) := rfl
theorem tab_12 : tab 12 = some (.code x12) := rfl
theorem tab_13 : tab 13 = some (.code x13) := rfl
theorem tab_18 : tab 18 = some (.code x18) := rfl
theorem tab_19 : tab 19 = some (.code x19) := rfl
theorem tab_22 : tab 22 = some (.code x22) := rfl
theorem tab_23 : tab 23 = some (.code x23) := rfl
theorem tab_25 : tab 25 = some (.code x25) := rfl
theorem tab_27 : tab 27 = some (.code x27) := rfl
theorem tab_29 : tab 29 = some (.code x29) := rfl
theorem tab_31 : tab 31 = some (.code x31) := rfl
theorem tab_33 : tab 33 = some (.code x33) := rfl
theorem tab_35 : tab 35 = some (.code x35) := rfl
theorem tab_36 : tab 36 = some (.code x36) := rfl
theorem tab_37 : tab 37 = some (.code x37) := rfl
theorem tab_38 : tab 38 = some (.code x38) := rfl
theorem tab_39 : tab 39 = some (.code x39) := rfl
theorem tab_41 : tab 41 = some (.code x41) := rfl
theorem tab_42 : tab 42 = some (.code x42) := rfl
theorem tab_48 : tab 48 = some (.code x48) := rfl
theorem tab_51 : tab 51 = some (.code x51) := rfl
theorem tab_52 : tab 52 = some (.code x52) := rfl
theorem tab_53 : tab 53 = some (.code x53) := rfl
theorem tab_54 : tab 54 = some (.code x54) := rfl
theorem tab_55 : tab 55 = some (.code x55) := rfl
theorem tab_56 : tab 56 = some (.code x56) := rfl
theorem tab_57 : tab 57 = some (.code x57) := rfl
theorem tab_58 : tab 58 = some (.code x58) := rfl
theorem tab_59 : tab 59 = some (.code x59) := rfl
theorem tab_62 : tab 62 = some (.code x62) := rfl
theorem tab_65 : tab 65 = some (.code x65) := rfl
theorem tab_66 : tab 66 = some (.code x66) := rfl
theorem tab_67 : tab 67 = some (.code x67) := rfl
theorem tab_68 : tab 68 = some (.code x68) := rfl
theorem tab_69 : tab 69 = some (.prim false (pClone 1)) := rfl
theorem tab_72 : tab 72 = some (.code x72) := rfl
theorem tab_73 : tab 73 = some (.code x73) := rfl
theorem tab_74 : tab 74 = some (.code x74) := rfl
theorem tab_75 : tab 75 = some (.code x75) := rfl
theorem tab_76 : tab 76 = some (.code x76) := rfl
theorem tab_77 : tab 77 = some (.code x77) := rfl
theorem tab_78 : tab 78 = some (.code x78) := rfl
theorem tab_79 : tab 79 = some (.code x79) := rfl
theorem tab_80 : tab 80 = some (.code x80) := rfl
theorem tab_82 : tab 82 = some (.code x82) := rfl
theorem tab_83 : tab 83 = some (.code x83) := rfl
theorem tab_84 : tab 84 = some (.code x84) := rfl
theorem tab_85 : tab 85 = some (.code x85) := rfl
theorem tab_86 : tab 86 = some (.code x86) := rfl
theorem tab_87 : tab 87 = some (.code x87) := rfl
theorem tab_88 : tab 88 = some (.code x88) := rfl
theorem tab_89 : tab 89 = some (.code x89) := rfl
theorem tab_91 : tab 91 = some (.code x91) := rfl
theorem tab_93 : tab 93 = some (.code x93) := rfl
theorem tab_94 : tab 94 = some (.code x94) := rfl
theorem tab_99 : tab 99 = some (.code x99) := rfl
theorem tab_100 : tab 100 = some (.code x100) := rfl
theorem tab_101 : tab 101 = some (.code x101) := rfl
theorem tab_102 : tab 102 = some (.code x102) := rfl
theorem tab_103 : tab 103 = some (.code x103) := rfl
theorem tab_104 : tab 104 = some (.code x104) := rfl
theorem tab_105 : tab 105 = some (.code x105) := rfl
theorem tab_106 : tab 106 = some (.code x106) := rfl
theorem tab_107 : tab 107 = some (.code x107) := rfl
theorem tab_108 : tab 108 = some (.code x108) := rfl
theorem tab_109 : tab 109 = some (.code x109) := rfl
theorem tab_110 : tab 110 = some (.code x110) := rfl
theorem tab_111 : tab 111 = some (.code x111) := rfl
theorem tab_112 : tab 112 = some (.prim false (pClone 3)) := rfl
theorem tab_113 : tab 113 = some (.prim false (pClone 3)) := rfl
theorem tab_114 : tab 114 = some (.prim false (pClone 3)) := rfl
theorem tab_115 : tab 115 = some (.prim false (pClone 5)) := rfl
theorem tab_116 : tab 116 = some (.prim false (pClone 1)) := rfl
theorem tab_117 : tab 117 = some (.code x117) := rfl
theorem tab_120 : tab 120 = some (.code x120) := rfl
theorem tab_122 : tab 122 = some (.code x122) := rfl
theorem tab_123 : tab 123 = some (.code x123) := rfl
theorem tab_124 : tab 124 = some (.code x124) := rfl
theorem tab_125 : tab 125 = some (.code x125) := rfl
theorem tab_128 : tab 128 = some (.code x128) := rfl
theorem tab_129 : tab 129 = some (.code x129) := rfl
theorem tab_130 : tab 130 = some (.code x130) := rfl
theorem tab_131 : tab 131 = some (.code x131) := rfl
theorem tab_132 : tab 132 = some (.code x132) := rfl
theorem tab_133 : tab 133 = some (.code x133) := rfl
theorem tab_134 : tab 134 = some (.code x134) := rfl
theorem tab_135 : tab 135 = some (.code x135) := rfl
theorem tab_136 : tab 136 = some (.code x136) := rfl
theorem tab_137 : tab 137 = some (.code x137) := rfl
theorem tab_141 : tab 141 = some (.code x141) := rfl
theorem tab_142 : tab 142 = some (.code x142) := rfl
theorem tab_143 : tab 143 = some (.code x143) := rfl
theorem tab_144 : tab 144 = some (.code x144) := rfl
theorem tab_145 : tab 145 = some (.code x145) := rfl
theorem tab_146 : tab 146 = some (.code x146) := rfl
theorem tab_147 : tab 147 = some (.code x147) := rfl
theorem tab_148 : tab 148 = some (.code x148) := rfl
theorem tab_149 : tab 149 = some (.code x149) := rfl
theorem tab_150 : tab 150 = some (.code x150) := rfl
theorem tab_155 : tab 155 = some (.code x155) := rfl
theorem tab_160 : tab 160 = some (.code x160) := rfl
theorem tab_161 : tab 161 = some (.code x161) := rfl
theorem tab_162 : tab 162 = some (.code x162) := rfl
theorem tab_163 : tab 163 = some (.code x163) := rfl
theorem tab_164 : tab 164 = some (.code x164) := rfl
theorem tab_165 : tab 165 = some (.code x165) := rfl
theorem tab_166 : tab 166 = some (.code x166) := rfl
theorem tab_167 : tab 167 = some (.code x167) := rfl
theorem tab_168 : tab 168 = some (.code x168) := rfl
theorem tab_169 : tab 169 = some (.code x169) := rfl
theorem tab_170 : tab 170 = some (.code x170) := rfl
theorem tab_171 : tab 171 = some (.code x171) := rfl
theorem tab_172 : tab 172 = some (.code x172) := rfl
theorem tab_173 : tab 173 = some (.code x173) := rfl
theorem tab_174 : tab 174 = some (.code x174) := rfl
theorem tab_177 : tab 177 = some (.code x177) := rfl
theorem tab_178 : tab 178 = some (.code x178) := rfl
theorem tab_180 : tab 180 = some (.code x180) := rfl
theorem tab_181 : tab 181 = some (.code x181) := rfl
theorem tab_182 : tab 182 = some (.code x182) := rfl
theorem tab_183 : tab 183 = some (.code x183) := rfl
theorem tab_185 : tab 185 = some (.code x185) := rfl
theorem tab_186 : tab 186 = some (.code x186) := rfl
theorem tab_187 : tab 187 = some (.code x187) := rfl
theorem tab_189 : tab 189 = some (.code x189) := rfl
theorem tab_190 : tab 190 = some (.code x190) := rfl
theorem tab_191 : tab 191 = some (.code x191) := rfl
theorem tab_192 : tab 192 = some (.code x192) := rfl
theorem tab_193 : tab 193 = some (.code x193) := rfl
theorem tab_194 : tab 194 = some (.code x194) := rfl
theorem tab_198 : tab 198 = some (.code x198) := rfl
theorem tab_200 : tab 200 = some (.code x200) := rfl
theorem tab_201 : tab 201 = some (.code x201) := rfl
theorem tab_202 : tab 202 = some (.code x202) := rfl
theorem tab_203 : tab 203 = some (.code x203) := rfl
theorem tab_204 : tab 204 = some (.code x204) := rfl
theorem tab_205 : tab 205 = some (.code x205) := rfl
theorem tab_206 : tab 206 = some (.code x206) := rfl
theorem tab_207 : tab 207 = some (.code x207) := rfl
theorem tab_208 : tab 208 = some (.code x208) := rfl
theorem tab_209 : tab 209 = some (.code x209) := rfl
theorem tab_210 : tab 210 = some (.code x210) := rfl
theorem tab_211 : tab 211 = some (.code x211) := rfl
theorem tab_212 : tab 212 = some (.code x212) := rfl
theorem tab_213 : tab 213 = some (.code x213) := rfl
theorem tab_214 : tab 214 = some (.code x214) := rfl
theorem tab_215 : tab 215 = some (.code x215) := rfl
theorem tab_216 : tab 216 = some (.code x216) := rfl
theorem tab_217 : tab 217 = some (.code x217) := rfl
theorem tab_218 : tab 218 = some (.code x218) := rfl
theorem tab_219 : tab 219 = some (.code x219) := rfl
theorem tab_220 : tab 220 = some (.code x220) := rfl
theorem tab_221 : tab 221 = some (.code x221) := rfl
theorem tab_222 : tab 222 = some (.code x222) := rfl
theorem tab_223 : tab 223 = some (.code x223) := rfl
theorem tab_224 : tab 224 = some (.code x224) := rfl
theorem tab_225 : tab 225 = some (.code x225) := rfl
theorem tab_236 : tab 236 = some (.code x236) := rfl
theorem tab_245 : tab 245 = some (.code x245) := rfl
theorem tab_246 : tab 246 = some (.code x246) := rfl
theorem tab_247 : tab 247 = some (.code x247) := rfl
theorem tab_248 : tab 248 = some (.code x248) := rfl
theorem tab_249 : tab 249 = some (.code x249) := rfl
theorem tab_250 : tab 250 = some (.code x250) := rfl
theorem tab_251 : tab 251 = some (.code x251) := rfl
theorem tab_252 : tab 252 = some (.code x252) := rfl
theorem tab_253 : tab 253 = some (.code x253) := rfl
theorem tab_254 : tab 254 = some (.code x254) := rfl
theorem tab_255 : tab 255 = some (.code x255) := rfl
theorem tab_256 : tab 256 = some (.code x256) := rfl
theorem tab_257 : tab 257 = some (.code x257) := rfl
theorem tab_258 : tab 258 = some (.prim false pAdd64) := rfl
theorem tab_267 : tab 267 = some (.code x267) := rfl
theorem tab_268 : tab 268 = some (.code x268) := rfl
theorem tab_269 : tab 269 = some (.prim false (pClone 1)) := rfl
theorem tab_270 : tab 270 = some (.code x270) := rfl
theorem tab_271 : tab 271 = some (.code x271) := rfl
end Go.Proofs.YtcpamijbhidheaaGreat
