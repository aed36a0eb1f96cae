/- The table of the seat's functions. Printed by a program. -/
import Derived.Test.YtbncnimfgdelaaaGreatBQX1
import Derived.Test.YtbncnimfgdelaaaGreatChecked
set_option maxRecDepth 100000
namespace Go.Proofs.YtbncnimfgdelaaaGreat
open Go.Vm
theorem nH:Go.Proofs.Tryz.prog.follows .mixedOrders=true:=Go.Proofs.Tryz.checked.mixed
theorem aOg:CY Go.Proofs.Tryz.prog 89 (.prim false (fR 3)):=⟨rfl,pO nH (zero:=[.int .i64 0,.int .i64 0,.int .i64 0]) (by decide+kernel)⟩
theorem aGr:CY Go.Proofs.Tryz.prog 193 (.prim false (fR 3)):=⟨rfl,pO nH (zero:=[.int .i64 0,.int .i64 0,.int .i64 0]) (by decide+kernel)⟩
theorem aGs:CY Go.Proofs.Tryz.prog 194 (.prim false (fR 3)):=⟨rfl,pO nH (zero:=[.int .i64 0,.int .i64 0,.int .i64 0]) (by decide+kernel)⟩
theorem aGt:CY Go.Proofs.Tryz.prog 195 (.prim false (fR 5)):=⟨rfl,pO nH (zero:=[.int .i64 0,.int .i64 0,.int .i64 0,.int .i64 0,.int .i64 0]) (by decide+kernel)⟩
theorem aGu:CY Go.Proofs.Tryz.prog 196 (.prim false (fR 1)):=⟨rfl,pO nH (zero:=[.int .i64 0]) (by decide+kernel)⟩
theorem aGv:CY Go.Proofs.Tryz.prog 197 (.prim false (fR 1)):=⟨rfl,pO nH (zero:=[.bool false]) (by decide+kernel)⟩
theorem aGw:CY Go.Proofs.Tryz.prog 277 (.prim false FE):=⟨rfl,WC Go.Proofs.Tryz.func277 (by kernel_rfl) (by kernel_rfl) (by kernel_rfl) (by kernel_rfl)⟩
theorem aGx:CY Go.Proofs.Tryz.prog 293 (.prim false (fR 1)):=⟨rfl,pO nH (zero:=[.int .i64 0]) (by decide+kernel)⟩
noncomputable def aQD:TT:= .node 154 (.node 92 (.node 55 (.node 21 (.node 15 (.node 12 (.node 10 (.leaf 3 (.code x3)) (.node 11 (.leaf 10 (.code x10)) (.leaf 11 (.code x11)))) (.node 13 (.leaf 12 (.code x12)) (.node 14 (.leaf 13 (.code x13)) (.leaf 14 (.code x14))))) (.node 18 (.node 16 (.leaf 15 (.code x15)) (.node 17 (.leaf 16 (.code x16)) (.leaf 17 (.code x17)))) (.node 19 (.leaf 18 (.code x18)) (.node 20 (.leaf 19 (.code x19)) (.leaf 20 (.code x20)))))) (.node 44 (.node 25 (.node 23 (.leaf 21 (.code x21)) (.node 24 (.leaf 23 (.code x23)) (.leaf 24 (.code x24)))) (.node 40 (.leaf 25 (.code x25)) (.node 41 (.leaf 40 (.code x40)) (.leaf 41 (.code x41))))) (.node 52 (.node 45 (.leaf 44 (.code x44)) (.node 51 (.leaf 45 (.code x45)) (.leaf 51 (.code x51)))) (.node 53 (.leaf 52 (.code x52)) (.node 54 (.leaf 53 (.code x53)) (.leaf 54 (.code x54))))))) (.node 67 (.node 61 (.node 58 (.node 56 (.leaf 55 (.code x55)) (.node 57 (.leaf 56 (.code x56)) (.leaf 57 (.code x57)))) (.node 59 (.leaf 58 (.code x58)) (.node 60 (.leaf 59 (.code x59)) (.leaf 60 (.code x60))))) (.node 64 (.node 62 (.leaf 61 (.code x61)) (.node 63 (.leaf 62 (.code x62)) (.leaf 63 (.code x63)))) (.node 65 (.leaf 64 (.code x64)) (.node 66 (.leaf 65 (.code x65)) (.leaf 66 (.code x66)))))) (.node 73 (.node 70 (.node 68 (.leaf 67 (.code x67)) (.node 69 (.leaf 68 (.code x68)) (.leaf 69 (.code x69)))) (.node 71 (.leaf 70 (.code x70)) (.node 72 (.leaf 71 (.code x71)) (.leaf 72 (.code x72))))) (.node 87 (.node 85 (.leaf 73 (.code x73)) (.node 86 (.leaf 85 (.code x85)) (.leaf 86 (.code x86)))) (.node 89 (.leaf 87 (.code x87)) (.node 90 (.leaf 89 (.prim false (fR 3))) (.leaf 90 (.code x90)))))))) (.node 120 (.node 108 (.node 99 (.node 95 (.node 93 (.leaf 92 (.code x92)) (.node 94 (.leaf 93 (.code x93)) (.leaf 94 (.code x94)))) (.node 96 (.leaf 95 (.code x95)) (.node 97 (.leaf 96 (.code x96)) (.leaf 97 (.code x97))))) (.node 105 (.node 100 (.leaf 99 (.code x99)) (.node 104 (.leaf 100 (.code aMc)) (.leaf 104 (.code aMd)))) (.node 106 (.leaf 105 (.code aMe)) (.node 107 (.leaf 106 (.code aMf)) (.leaf 107 (.code aMg)))))) (.node 114 (.node 111 (.node 109 (.leaf 108 (.code aMh)) (.node 110 (.leaf 109 (.code aMi)) (.leaf 110 (.code aMj)))) (.node 112 (.leaf 111 (.code aMk)) (.node 113 (.leaf 112 (.code aMl)) (.leaf 113 (.code aMm))))) (.node 117 (.node 115 (.leaf 114 (.code aMn)) (.node 116 (.leaf 115 (.code aMo)) (.leaf 116 (.code aMp)))) (.node 118 (.leaf 117 (.code aMq)) (.node 119 (.leaf 118 (.code aMr)) (.leaf 119 (.code aMs))))))) (.node 132 (.node 126 (.node 123 (.node 121 (.leaf 120 (.code aMt)) (.node 122 (.leaf 121 (.code aMu)) (.leaf 122 (.code aMv)))) (.node 124 (.leaf 123 (.code aMw)) (.node 125 (.leaf 124 (.code aMx)) (.leaf 125 (.code aMy))))) (.node 129 (.node 127 (.leaf 126 (.code aMz)) (.node 128 (.leaf 127 (.code aMA)) (.leaf 128 (.code aMB)))) (.node 130 (.leaf 129 (.code aMC)) (.node 131 (.leaf 130 (.code aMD)) (.leaf 131 (.code aME)))))) (.node 143 (.node 136 (.node 133 (.leaf 132 (.code aMF)) (.node 135 (.leaf 133 (.code aMG)) (.leaf 135 (.code aMH)))) (.node 141 (.leaf 136 (.code aMI)) (.node 142 (.leaf 141 (.code aMJ)) (.leaf 142 (.code aMK))))) (.node 148 (.node 144 (.leaf 143 (.code aML)) (.node 147 (.leaf 144 (.code aMM)) (.leaf 147 (.code aMN)))) (.node 150 (.node 149 (.leaf 148 (.code aMO)) (.leaf 149 (.code aMP))) (.node 151 (.leaf 150 (.code aMQ)) (.leaf 151 (.code aMR))))))))) (.node 216 (.node 184 (.node 172 (.node 166 (.node 163 (.node 155 (.leaf 154 (.code aMS)) (.node 158 (.leaf 155 (.code aMT)) (.leaf 158 (.code aMU)))) (.node 164 (.leaf 163 (.code aMV)) (.node 165 (.leaf 164 (.code aMW)) (.leaf 165 (.code aMX))))) (.node 169 (.node 167 (.leaf 166 (.code aMY)) (.node 168 (.leaf 167 (.code aMZ)) (.leaf 168 (.code aM0)))) (.node 170 (.leaf 169 (.code aM1)) (.node 171 (.leaf 170 (.code aM2)) (.leaf 171 (.code aM3)))))) (.node 178 (.node 175 (.node 173 (.leaf 172 (.code aM4)) (.node 174 (.leaf 173 (.code aM5)) (.leaf 174 (.code aM6)))) (.node 176 (.leaf 175 (.code aM7)) (.node 177 (.leaf 176 (.code aM8)) (.leaf 177 (.code aM9))))) (.node 181 (.node 179 (.leaf 178 (.code aNa)) (.node 180 (.leaf 179 (.code aNb)) (.leaf 180 (.code aNc)))) (.node 182 (.leaf 181 (.code aNd)) (.node 183 (.leaf 182 (.code aNe)) (.leaf 183 (.code aNf))))))) (.node 197 (.node 191 (.node 187 (.node 185 (.leaf 184 (.code aNg)) (.node 186 (.leaf 185 (.code aNh)) (.leaf 186 (.code aNi)))) (.node 189 (.leaf 187 (.code aNj)) (.node 190 (.leaf 189 (.code aNk)) (.leaf 190 (.code aNl))))) (.node 194 (.node 192 (.leaf 191 (.code aNm)) (.node 193 (.leaf 192 (.code aNn)) (.leaf 193 (.prim false (fR 3))))) (.node 195 (.leaf 194 (.prim false (fR 3))) (.node 196 (.leaf 195 (.prim false (fR 5))) (.leaf 196 (.prim false (fR 1))))))) (.node 209 (.node 204 (.node 199 (.leaf 197 (.prim false (fR 1))) (.node 203 (.leaf 199 (.code aNo)) (.leaf 203 (.code aNp)))) (.node 205 (.leaf 204 (.code aNq)) (.node 207 (.leaf 205 (.code aNr)) (.leaf 207 (.code aNs))))) (.node 212 (.node 210 (.leaf 209 (.code aNt)) (.node 211 (.leaf 210 (.code aNu)) (.leaf 211 (.code aNv)))) (.node 214 (.node 213 (.leaf 212 (.code aNw)) (.leaf 213 (.code aNx))) (.node 215 (.leaf 214 (.code aNy)) (.leaf 215 (.code aNz)))))))) (.node 259 (.node 228 (.node 222 (.node 219 (.node 217 (.leaf 216 (.code aNA)) (.node 218 (.leaf 217 (.code aNB)) (.leaf 218 (.code aNC)))) (.node 220 (.leaf 219 (.code aND)) (.node 221 (.leaf 220 (.code aNE)) (.leaf 221 (.code aNF))))) (.node 225 (.node 223 (.leaf 222 (.code aFJ)) (.node 224 (.leaf 223 (.code aFL)) (.leaf 224 (.code aNG)))) (.node 226 (.leaf 225 (.code aNH)) (.node 227 (.leaf 226 (.code aNI)) (.leaf 227 (.code aNJ)))))) (.node 245 (.node 231 (.node 229 (.leaf 228 (.code aNK)) (.node 230 (.leaf 229 (.code aNL)) (.leaf 230 (.code aNM)))) (.node 232 (.leaf 231 (.code aNN)) (.node 233 (.leaf 232 (.code aNO)) (.leaf 233 (.code aNP))))) (.node 256 (.node 246 (.leaf 245 (.code aNQ)) (.node 247 (.leaf 246 (.code aNR)) (.leaf 247 (.code aNS)))) (.node 257 (.leaf 256 (.code aNT)) (.node 258 (.leaf 257 (.code aNU)) (.leaf 258 (.code aNV))))))) (.node 271 (.node 265 (.node 262 (.node 260 (.leaf 259 (.code aNW)) (.node 261 (.leaf 260 (.code aNX)) (.leaf 261 (.code aNY)))) (.node 263 (.leaf 262 (.code aNZ)) (.node 264 (.leaf 263 (.code aF7)) (.leaf 264 (.code aN0))))) (.node 268 (.node 266 (.leaf 265 (.code aN1)) (.node 267 (.leaf 266 (.code aN2)) (.leaf 267 (.code aN3)))) (.node 269 (.leaf 268 (.code aN4)) (.node 270 (.leaf 269 (.code aN5)) (.leaf 270 (.code aA3)))))) (.node 285 (.node 282 (.node 277 (.leaf 271 (.code aN6)) (.node 281 (.leaf 277 (.prim false FE)) (.leaf 281 (.code aN7)))) (.node 283 (.leaf 282 (.code aN8)) (.node 284 (.leaf 283 (.code aN9)) (.leaf 284 (.code aOa))))) (.node 288 (.node 286 (.leaf 285 (.code aOb)) (.node 287 (.leaf 286 (.code aCB)) (.leaf 287 (.code aOc)))) (.node 292 (.node 291 (.leaf 288 (.code aOd)) (.leaf 291 (.code aOe))) (.node 293 (.leaf 292 (.code aOf)) (.leaf 293 (.prim false (fR 1))))))))))
theorem ZC:aQD.All (CY Go.Proofs.Tryz.prog):=⟨⟨⟨⟨⟨⟨⟨aQC,⟨aLl,aLm⟩⟩,⟨aLn,⟨aLo,aLp⟩⟩⟩,⟨⟨aLq,⟨aLr,aLs⟩⟩,⟨aLt,⟨aLu,aLv⟩⟩⟩⟩,⟨⟨⟨aLw,⟨aLx,aLy⟩⟩,⟨aLz,⟨aLA,aLB⟩⟩⟩,⟨⟨aLC,⟨aLD,aLE⟩⟩,⟨aLF,⟨aLG,aLH⟩⟩⟩⟩⟩,⟨⟨⟨⟨aLI,⟨aLJ,aLK⟩⟩,⟨aLL,⟨aLM,aLN⟩⟩⟩,⟨⟨aLO,⟨aLP,aLQ⟩⟩,⟨aLR,⟨aLS,aLT⟩⟩⟩⟩,⟨⟨⟨aLU,⟨aLV,aLW⟩⟩,⟨aLX,⟨aLY,aLZ⟩⟩⟩,⟨⟨aL0,⟨aL1,aL2⟩⟩,⟨aL3,⟨aOg,aL4⟩⟩⟩⟩⟩⟩,⟨⟨⟨⟨⟨aL5,⟨aL6,aL7⟩⟩,⟨aL8,⟨aL9,aMa⟩⟩⟩,⟨⟨aMb,⟨aEf,aEg⟩⟩,⟨aEh,⟨aEi,aEj⟩⟩⟩⟩,⟨⟨⟨aEk,⟨aEl,aEm⟩⟩,⟨aEn,⟨aEo,aEp⟩⟩⟩,⟨⟨aEq,⟨aEr,aEs⟩⟩,⟨aEt,⟨aEu,aEv⟩⟩⟩⟩⟩,⟨⟨⟨⟨aEw,⟨aEx,aEy⟩⟩,⟨aEz,⟨aEA,aEB⟩⟩⟩,⟨⟨aEC,⟨aED,aEE⟩⟩,⟨aEF,⟨aEG,aEH⟩⟩⟩⟩,⟨⟨⟨aEI,⟨aEJ,aEK⟩⟩,⟨aEL,⟨aEM,aEN⟩⟩⟩,⟨⟨aEO,⟨aEP,aEQ⟩⟩,⟨⟨aER,aES⟩,⟨aET,aEU⟩⟩⟩⟩⟩⟩⟩,⟨⟨⟨⟨⟨⟨aEV,⟨aEW,aEX⟩⟩,⟨aEY,⟨aEZ,aE0⟩⟩⟩,⟨⟨aE1,⟨aE2,aE3⟩⟩,⟨aE4,⟨aE5,aE6⟩⟩⟩⟩,⟨⟨⟨aE7,⟨aE8,aE9⟩⟩,⟨aFa,⟨aFb,aFc⟩⟩⟩,⟨⟨aFd,⟨aFe,aFf⟩⟩,⟨aFg,⟨aFh,aFi⟩⟩⟩⟩⟩,⟨⟨⟨⟨aFj,⟨aFk,aFl⟩⟩,⟨aFm,⟨aFn,aFo⟩⟩⟩,⟨⟨aFp,⟨aFq,aGr⟩⟩,⟨aGs,⟨aGt,aGu⟩⟩⟩⟩,⟨⟨⟨aGv,⟨aFr,aFs⟩⟩,⟨aFt,⟨aFu,aFv⟩⟩⟩,⟨⟨aFw,⟨aFx,aFy⟩⟩,⟨⟨aFz,aFA⟩,⟨aFB,aFC⟩⟩⟩⟩⟩⟩,⟨⟨⟨⟨⟨aFD,⟨aFE,aFF⟩⟩,⟨aFG,⟨aFH,aFI⟩⟩⟩,⟨⟨aFK,⟨aFM,aFN⟩⟩,⟨aFO,⟨aFP,aFQ⟩⟩⟩⟩,⟨⟨⟨aFR,⟨aFS,aFT⟩⟩,⟨aFU,⟨aFV,aFW⟩⟩⟩,⟨⟨aFX,⟨aFY,aFZ⟩⟩,⟨aF0,⟨aF1,aF2⟩⟩⟩⟩⟩,⟨⟨⟨⟨aF3,⟨aF4,aF5⟩⟩,⟨aF6,⟨aF8,aF9⟩⟩⟩,⟨⟨aGa,⟨aGb,aGc⟩⟩,⟨aGd,⟨aGe,aGf⟩⟩⟩⟩,⟨⟨⟨aGg,⟨aGw,aGh⟩⟩,⟨aGi,⟨aGj,aGk⟩⟩⟩,⟨⟨aGl,⟨aGm,aGn⟩⟩,⟨⟨aGo,aGp⟩,⟨aGq,aGx⟩⟩⟩⟩⟩⟩⟩⟩
noncomputable def tab:pN:=aQD.get
theorem aKU:tab 3=some (.code x3):=rfl
theorem aOh:tab 10=some (.code x10):=rfl
theorem aOi:tab 11=some (.code x11):=rfl
theorem aOj:tab 12=some (.code x12):=rfl
theorem aOk:tab 13=some (.code x13):=rfl
theorem aOl:tab 14=some (.code x14):=rfl
theorem aOm:tab 15=some (.code x15):=rfl
theorem aOn:tab 16=some (.code x16):=rfl
theorem aOo:tab 17=some (.code x17):=rfl
theorem aOp:tab 18=some (.code x18):=rfl
theorem aOq:tab 19=some (.code x19):=rfl
theorem aOr:tab 20=some (.code x20):=rfl
theorem aOs:tab 21=some (.code x21):=rfl
theorem aOt:tab 23=some (.code x23):=rfl
theorem aOu:tab 24=some (.code x24):=rfl
theorem aOv:tab 25=some (.code x25):=rfl
theorem aOw:tab 40=some (.code x40):=rfl
theorem aOx:tab 41=some (.code x41):=rfl
theorem aOy:tab 44=some (.code x44):=rfl
theorem aOz:tab 45=some (.code x45):=rfl
theorem aOA:tab 51=some (.code x51):=rfl
theorem aOB:tab 52=some (.code x52):=rfl
theorem aOC:tab 53=some (.code x53):=rfl
theorem aOD:tab 54=some (.code x54):=rfl
theorem aOE:tab 55=some (.code x55):=rfl
theorem aOF:tab 56=some (.code x56):=rfl
theorem aOG:tab 57=some (.code x57):=rfl
theorem aOH:tab 58=some (.code x58):=rfl
theorem aOI:tab 59=some (.code x59):=rfl
theorem aOJ:tab 60=some (.code x60):=rfl
theorem aOK:tab 61=some (.code x61):=rfl
theorem aOL:tab 62=some (.code x62):=rfl
theorem aOM:tab 63=some (.code x63):=rfl
theorem aON:tab 64=some (.code x64):=rfl
theorem aOO:tab 65=some (.code x65):=rfl
theorem aOP:tab 66=some (.code x66):=rfl
theorem aOQ:tab 67=some (.code x67):=rfl
theorem aOR:tab 68=some (.code x68):=rfl
theorem aOS:tab 69=some (.code x69):=rfl
theorem aOT:tab 70=some (.code x70):=rfl
theorem aCC:tab 71=some (.code x71):=rfl
theorem aOU:tab 72=some (.code x72):=rfl
theorem aOV:tab 73=some (.code x73):=rfl
theorem aOW:tab 85=some (.code x85):=rfl
theorem aOX:tab 86=some (.code x86):=rfl
theorem aOY:tab 87=some (.code x87):=rfl
theorem aOZ:tab 89=some (.prim false (fR 3)):=rfl
theorem aO0:tab 90=some (.code x90):=rfl
theorem aO1:tab 92=some (.code x92):=rfl
theorem aO2:tab 93=some (.code x93):=rfl
theorem aO3:tab 94=some (.code x94):=rfl
theorem aO4:tab 95=some (.code x95):=rfl
theorem aO5:tab 96=some (.code x96):=rfl
theorem aO6:tab 97=some (.code x97):=rfl
theorem aO7:tab 99=some (.code x99):=rfl
theorem aGy:tab 100=some (.code aMc):=rfl
theorem aGz:tab 104=some (.code aMd):=rfl
theorem aGA:tab 105=some (.code aMe):=rfl
theorem aGB:tab 106=some (.code aMf):=rfl
theorem aGC:tab 107=some (.code aMg):=rfl
theorem ZD:tab 108=some (.code aMh):=rfl
theorem aGD:tab 109=some (.code aMi):=rfl
theorem ZE:tab 110=some (.code aMj):=rfl
theorem aGE:tab 111=some (.code aMk):=rfl
theorem aGF:tab 112=some (.code aMl):=rfl
theorem aGG:tab 113=some (.code aMm):=rfl
theorem aGH:tab 114=some (.code aMn):=rfl
theorem aGI:tab 115=some (.code aMo):=rfl
theorem aGJ:tab 116=some (.code aMp):=rfl
theorem aGK:tab 117=some (.code aMq):=rfl
theorem aGL:tab 118=some (.code aMr):=rfl
theorem aGM:tab 119=some (.code aMs):=rfl
theorem aGN:tab 120=some (.code aMt):=rfl
theorem aGO:tab 121=some (.code aMu):=rfl
theorem aGP:tab 122=some (.code aMv):=rfl
theorem aGQ:tab 123=some (.code aMw):=rfl
theorem aGR:tab 124=some (.code aMx):=rfl
theorem aGS:tab 125=some (.code aMy):=rfl
theorem ZF:tab 126=some (.code aMz):=rfl
theorem ZG:tab 127=some (.code aMA):=rfl
theorem aGT:tab 128=some (.code aMB):=rfl
theorem aGU:tab 129=some (.code aMC):=rfl
theorem aGV:tab 130=some (.code aMD):=rfl
theorem aGW:tab 131=some (.code aME):=rfl
theorem aGX:tab 132=some (.code aMF):=rfl
theorem aGY:tab 133=some (.code aMG):=rfl
theorem aGZ:tab 135=some (.code aMH):=rfl
theorem ZH:tab 136=some (.code aMI):=rfl
theorem aG0:tab 141=some (.code aMJ):=rfl
theorem ZI:tab 142=some (.code aMK):=rfl
theorem aG1:tab 143=some (.code aML):=rfl
theorem aG2:tab 144=some (.code aMM):=rfl
theorem Q5:tab 147=some (.code aMN):=rfl
theorem aG3:tab 148=some (.code aMO):=rfl
theorem ZJ:tab 149=some (.code aMP):=rfl
theorem Q6:tab 150=some (.code aMQ):=rfl
theorem aG4:tab 151=some (.code aMR):=rfl
theorem aG5:tab 154=some (.code aMS):=rfl
theorem aG6:tab 155=some (.code aMT):=rfl
theorem aG7:tab 158=some (.code aMU):=rfl
theorem aG8:tab 163=some (.code aMV):=rfl
theorem aG9:tab 164=some (.code aMW):=rfl
theorem ZK:tab 165=some (.code aMX):=rfl
theorem aHa:tab 166=some (.code aMY):=rfl
theorem aHb:tab 167=some (.code aMZ):=rfl
theorem ZL:tab 168=some (.code aM0):=rfl
theorem aHc:tab 169=some (.code aM1):=rfl
theorem aHd:tab 170=some (.code aM2):=rfl
theorem aHe:tab 171=some (.code aM3):=rfl
theorem aHf:tab 172=some (.code aM4):=rfl
theorem aHg:tab 173=some (.code aM5):=rfl
theorem aHh:tab 174=some (.code aM6):=rfl
theorem aHi:tab 175=some (.code aM7):=rfl
theorem aHj:tab 176=some (.code aM8):=rfl
theorem aHk:tab 177=some (.code aM9):=rfl
theorem aHl:tab 178=some (.code aNa):=rfl
theorem aHm:tab 179=some (.code aNb):=rfl
theorem aHn:tab 180=some (.code aNc):=rfl
theorem aHo:tab 181=some (.code aNd):=rfl
theorem aHp:tab 182=some (.code aNe):=rfl
theorem aHq:tab 183=some (.code aNf):=rfl
theorem ZM:tab 184=some (.code aNg):=rfl
theorem aHr:tab 185=some (.code aNh):=rfl
theorem aHs:tab 186=some (.code aNi):=rfl
theorem aHt:tab 187=some (.code aNj):=rfl
theorem aHu:tab 189=some (.code aNk):=rfl
theorem aHv:tab 190=some (.code aNl):=rfl
theorem aHw:tab 191=some (.code aNm):=rfl
theorem aHx:tab 192=some (.code aNn):=rfl
theorem aHy:tab 193=some (.prim false (fR 3)):=rfl
theorem aHz:tab 194=some (.prim false (fR 3)):=rfl
theorem aHA:tab 195=some (.prim false (fR 5)):=rfl
theorem aHB:tab 196=some (.prim false (fR 1)):=rfl
theorem aHC:tab 197=some (.prim false (fR 1)):=rfl
theorem aHD:tab 199=some (.code aNo):=rfl
theorem aHE:tab 203=some (.code aNp):=rfl
theorem aHF:tab 204=some (.code aNq):=rfl
theorem aHG:tab 205=some (.code aNr):=rfl
theorem aHH:tab 207=some (.code aNs):=rfl
theorem aHI:tab 209=some (.code aNt):=rfl
theorem aHJ:tab 210=some (.code aNu):=rfl
theorem aHK:tab 211=some (.code aNv):=rfl
theorem aHL:tab 212=some (.code aNw):=rfl
theorem aHM:tab 213=some (.code aNx):=rfl
theorem ZN:tab 214=some (.code aNy):=rfl
theorem aHN:tab 215=some (.code aNz):=rfl
theorem aHO:tab 216=some (.code aNA):=rfl
theorem aHP:tab 217=some (.code aNB):=rfl
theorem aHQ:tab 218=some (.code aNC):=rfl
theorem aHR:tab 219=some (.code aND):=rfl
theorem aHS:tab 220=some (.code aNE):=rfl
theorem aHT:tab 221=some (.code aNF):=rfl
theorem aHU:tab 222=some (.code aFJ):=rfl
theorem aHV:tab 223=some (.code aFL):=rfl
theorem aHW:tab 224=some (.code aNG):=rfl
theorem aHX:tab 225=some (.code aNH):=rfl
theorem aHY:tab 226=some (.code aNI):=rfl
theorem aHZ:tab 227=some (.code aNJ):=rfl
theorem aH0:tab 228=some (.code aNK):=rfl
theorem aH1:tab 229=some (.code aNL):=rfl
theorem aH2:tab 230=some (.code aNM):=rfl
theorem aH3:tab 231=some (.code aNN):=rfl
theorem aH4:tab 232=some (.code aNO):=rfl
theorem aH5:tab 233=some (.code aNP):=rfl
theorem aH6:tab 245=some (.code aNQ):=rfl
theorem aH7:tab 246=some (.code aNR):=rfl
theorem aH8:tab 247=some (.code aNS):=rfl
theorem aH9:tab 256=some (.code aNT):=rfl
theorem aIa:tab 257=some (.code aNU):=rfl
theorem aIb:tab 258=some (.code aNV):=rfl
theorem ZO:tab 259=some (.code aNW):=rfl
theorem aIc:tab 260=some (.code aNX):=rfl
theorem aId:tab 261=some (.code aNY):=rfl
theorem aIe:tab 262=some (.code aNZ):=rfl
theorem aIf:tab 263=some (.code aF7):=rfl
theorem aIg:tab 264=some (.code aN0):=rfl
theorem aIh:tab 265=some (.code aN1):=rfl
theorem aIi:tab 266=some (.code aN2):=rfl
theorem aIj:tab 267=some (.code aN3):=rfl
theorem aIk:tab 268=some (.code aN4):=rfl
theorem aIl:tab 269=some (.code aN5):=rfl
theorem Q7:tab 270=some (.code aA3):=rfl
theorem ZP:tab 271=some (.code aN6):=rfl
theorem aIm:tab 277=some (.prim false FE):=rfl
theorem aIn:tab 281=some (.code aN7):=rfl
theorem aIo:tab 282=some (.code aN8):=rfl
theorem aIp:tab 283=some (.code aN9):=rfl
theorem aIq:tab 284=some (.code aOa):=rfl
theorem aIr:tab 285=some (.code aOb):=rfl
theorem ZQ:tab 286=some (.code aCB):=rfl
theorem aIs:tab 287=some (.code aOc):=rfl
theorem ZR:tab 288=some (.code aOd):=rfl
theorem aIt:tab 291=some (.code aOe):=rfl
theorem aIu:tab 292=some (.code aOf):=rfl
theorem aIv:tab 293=some (.prim false (fR 1)):=rfl
end Go.Proofs.YtbncnimfgdelaaaGreat
