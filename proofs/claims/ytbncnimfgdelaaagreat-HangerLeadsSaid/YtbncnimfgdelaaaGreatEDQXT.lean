/- The table of the seat's functions. Printed by a program. -/
import Derived.Test.YtbncnimfgdelaaaGreatEDQX1
import Derived.Test.YtbncnimfgdelaaaGreatChecked
set_option maxRecDepth 100000
namespace Go.Proofs.YtbncnimfgdelaaaGreat
open Go.Vm
theorem nY:Go.Proofs.Tryz.prog.follows .mixedOrders=true:=Go.Proofs.Tryz.checked.mixed
theorem aOh:DW Go.Proofs.Tryz.prog 89 (.prim false (gG 3)):=⟨rfl,pX nY (zero:=[.int .i64 0,.int .i64 0,.int .i64 0]) (by decide+kernel)⟩
theorem aGQ:DW Go.Proofs.Tryz.prog 193 (.prim false (gG 3)):=⟨rfl,pX nY (zero:=[.int .i64 0,.int .i64 0,.int .i64 0]) (by decide+kernel)⟩
theorem aGR:DW Go.Proofs.Tryz.prog 194 (.prim false (gG 3)):=⟨rfl,pX nY (zero:=[.int .i64 0,.int .i64 0,.int .i64 0]) (by decide+kernel)⟩
theorem aGS:DW Go.Proofs.Tryz.prog 195 (.prim false (gG 5)):=⟨rfl,pX nY (zero:=[.int .i64 0,.int .i64 0,.int .i64 0,.int .i64 0,.int .i64 0]) (by decide+kernel)⟩
theorem aGT:DW Go.Proofs.Tryz.prog 196 (.prim false (gG 1)):=⟨rfl,pX nY (zero:=[.int .i64 0]) (by decide+kernel)⟩
theorem aGU:DW Go.Proofs.Tryz.prog 197 (.prim false (gG 1)):=⟨rfl,pX nY (zero:=[.bool false]) (by decide+kernel)⟩
theorem aGV:DW Go.Proofs.Tryz.prog 277 (.prim false GF):=⟨rfl,W0 Go.Proofs.Tryz.func277 (by kernel_rfl) (by kernel_rfl) (by kernel_rfl) (by kernel_rfl)⟩
theorem aGW:DW Go.Proofs.Tryz.prog 293 (.prim false (gG 1)):=⟨rfl,pX nY (zero:=[.int .i64 0]) (by decide+kernel)⟩
noncomputable def aQD:TT:= .node 168 (.node 90 (.node 52 (.node 25 (.node 19 (.node 12 (.node 10 (.leaf 8 (.code x8)) (.node 11 (.leaf 10 (.code x10)) (.leaf 11 (.code x11)))) (.node 14 (.leaf 12 (.code x12)) (.node 16 (.leaf 14 (.code x14)) (.leaf 16 (.code x16))))) (.node 22 (.node 20 (.leaf 19 (.code x19)) (.node 21 (.leaf 20 (.code x20)) (.leaf 21 (.code x21)))) (.node 23 (.leaf 22 (.code x22)) (.node 24 (.leaf 23 (.code x23)) (.leaf 24 (.code x24)))))) (.node 43 (.node 36 (.node 26 (.leaf 25 (.code x25)) (.node 28 (.leaf 26 (.code x26)) (.leaf 28 (.code x28)))) (.node 41 (.leaf 36 (.code x36)) (.node 42 (.leaf 41 (.code x41)) (.leaf 42 (.code x42))))) (.node 47 (.node 45 (.leaf 43 (.code x43)) (.node 46 (.leaf 45 (.code x45)) (.leaf 46 (.code x46)))) (.node 48 (.leaf 47 (.code x47)) (.node 51 (.leaf 48 (.code x48)) (.leaf 51 (.code x51))))))) (.node 67 (.node 60 (.node 57 (.node 53 (.leaf 52 (.code x52)) (.node 54 (.leaf 53 (.code x53)) (.leaf 54 (.code x54)))) (.node 58 (.leaf 57 (.code x57)) (.node 59 (.leaf 58 (.code x58)) (.leaf 59 (.code x59))))) (.node 64 (.node 62 (.leaf 60 (.code x60)) (.node 63 (.leaf 62 (.code x62)) (.leaf 63 (.code x63)))) (.node 65 (.leaf 64 (.code x64)) (.node 66 (.leaf 65 (.code x65)) (.leaf 66 (.code x66)))))) (.node 74 (.node 70 (.node 68 (.leaf 67 (.code x67)) (.node 69 (.leaf 68 (.code x68)) (.leaf 69 (.code x69)))) (.node 72 (.leaf 70 (.code x70)) (.node 73 (.leaf 72 (.code x72)) (.leaf 73 (.code x73))))) (.node 86 (.node 75 (.leaf 74 (.code x74)) (.node 85 (.leaf 75 (.code x75)) (.leaf 85 (.code x85)))) (.node 87 (.leaf 86 (.code x86)) (.node 89 (.leaf 87 (.code x87)) (.leaf 89 (.prim false (gG 3))))))))) (.node 128 (.node 114 (.node 100 (.node 97 (.node 95 (.leaf 90 (.code x90)) (.node 96 (.leaf 95 (.code x95)) (.leaf 96 (.code x96)))) (.node 98 (.leaf 97 (.code x97)) (.node 99 (.leaf 98 (.code x98)) (.leaf 99 (.code x99))))) (.node 106 (.node 104 (.leaf 100 (.code aMf)) (.node 105 (.leaf 104 (.code aMg)) (.leaf 105 (.code aMh)))) (.node 110 (.leaf 106 (.code aMi)) (.node 111 (.leaf 110 (.code aMj)) (.leaf 111 (.code aMk)))))) (.node 120 (.node 117 (.node 115 (.leaf 114 (.code aMl)) (.node 116 (.leaf 115 (.code aMm)) (.leaf 116 (.code aMn)))) (.node 118 (.leaf 117 (.code aMo)) (.node 119 (.leaf 118 (.code aMp)) (.leaf 119 (.code aMq))))) (.node 123 (.node 121 (.leaf 120 (.code aMr)) (.node 122 (.leaf 121 (.code aMs)) (.leaf 122 (.code aMt)))) (.node 124 (.leaf 123 (.code aMu)) (.node 125 (.leaf 124 (.code aMv)) (.leaf 125 (.code aMw))))))) (.node 144 (.node 134 (.node 131 (.node 129 (.leaf 128 (.code aMx)) (.node 130 (.leaf 129 (.code aMy)) (.leaf 130 (.code aMz)))) (.node 132 (.leaf 131 (.code aMA)) (.node 133 (.leaf 132 (.code aMB)) (.leaf 133 (.code aMC))))) (.node 141 (.node 135 (.leaf 134 (.code aMD)) (.node 136 (.leaf 135 (.code aME)) (.leaf 136 (.code aMF)))) (.node 142 (.leaf 141 (.code aMG)) (.node 143 (.leaf 142 (.code aMH)) (.leaf 143 (.code aMI)))))) (.node 158 (.node 153 (.node 151 (.leaf 144 (.code aMJ)) (.node 152 (.leaf 151 (.code aMK)) (.leaf 152 (.code aML)))) (.node 154 (.leaf 153 (.code aCR)) (.node 155 (.leaf 154 (.code aMM)) (.leaf 155 (.code aMN))))) (.node 165 (.node 163 (.leaf 158 (.code aMO)) (.node 164 (.leaf 163 (.code aMP)) (.leaf 164 (.code aMQ)))) (.node 166 (.leaf 165 (.code aMR)) (.node 167 (.leaf 166 (.code aMS)) (.leaf 167 (.code aMT))))))))) (.node 231 (.node 199 (.node 186 (.node 179 (.node 176 (.node 174 (.leaf 168 (.code aMU)) (.node 175 (.leaf 174 (.code aMV)) (.leaf 175 (.code aMW)))) (.node 177 (.leaf 176 (.code aMX)) (.node 178 (.leaf 177 (.code aMY)) (.leaf 178 (.code aMZ))))) (.node 182 (.node 180 (.leaf 179 (.code aM0)) (.node 181 (.leaf 180 (.code aM1)) (.leaf 181 (.code aM2)))) (.node 183 (.leaf 182 (.code aM3)) (.node 185 (.leaf 183 (.code aM4)) (.leaf 185 (.code aM5)))))) (.node 192 (.node 189 (.node 187 (.leaf 186 (.code aM6)) (.node 188 (.leaf 187 (.code aM7)) (.leaf 188 (.code aM8)))) (.node 190 (.leaf 189 (.code aM9)) (.node 191 (.leaf 190 (.code aNa)) (.leaf 191 (.code aNb))))) (.node 195 (.node 193 (.leaf 192 (.code aNc)) (.node 194 (.leaf 193 (.prim false (gG 3))) (.leaf 194 (.prim false (gG 3))))) (.node 196 (.leaf 195 (.prim false (gG 5))) (.node 197 (.leaf 196 (.prim false (gG 1))) (.leaf 197 (.prim false (gG 1)))))))) (.node 214 (.node 207 (.node 203 (.node 201 (.leaf 199 (.code aNd)) (.node 202 (.leaf 201 (.code aNe)) (.leaf 202 (.code aNf)))) (.node 204 (.leaf 203 (.code aNg)) (.node 205 (.leaf 204 (.code aNh)) (.leaf 205 (.code aNi))))) (.node 211 (.node 209 (.leaf 207 (.code aNj)) (.node 210 (.leaf 209 (.code aNk)) (.leaf 210 (.code aNl)))) (.node 212 (.leaf 211 (.code aNm)) (.node 213 (.leaf 212 (.code aNn)) (.leaf 213 (.code aNo)))))) (.node 225 (.node 222 (.node 215 (.leaf 214 (.code aNp)) (.node 216 (.leaf 215 (.code aNq)) (.leaf 216 (.code aNr)))) (.node 223 (.leaf 222 (.code aFT)) (.node 224 (.leaf 223 (.code aFV)) (.leaf 224 (.code aNs))))) (.node 228 (.node 226 (.leaf 225 (.code aNt)) (.node 227 (.leaf 226 (.code aNu)) (.leaf 227 (.code aNv)))) (.node 229 (.leaf 228 (.code aNw)) (.node 230 (.leaf 229 (.code aNx)) (.leaf 230 (.code aNy)))))))) (.node 265 (.node 244 (.node 238 (.node 235 (.node 232 (.leaf 231 (.code aNz)) (.node 233 (.leaf 232 (.code aNA)) (.leaf 233 (.code aNB)))) (.node 236 (.leaf 235 (.code aNC)) (.node 237 (.leaf 236 (.code aND)) (.leaf 237 (.code aNE))))) (.node 241 (.node 239 (.leaf 238 (.code aNF)) (.node 240 (.leaf 239 (.code aNG)) (.leaf 240 (.code aNH)))) (.node 242 (.leaf 241 (.code aNI)) (.node 243 (.leaf 242 (.code aNJ)) (.leaf 243 (.code aNK)))))) (.node 258 (.node 247 (.node 245 (.leaf 244 (.code aNL)) (.node 246 (.leaf 245 (.code aNM)) (.leaf 246 (.code aNN)))) (.node 256 (.leaf 247 (.code aNO)) (.node 257 (.leaf 256 (.code aNP)) (.leaf 257 (.code aNQ))))) (.node 261 (.node 259 (.leaf 258 (.code aNR)) (.node 260 (.leaf 259 (.code aNS)) (.leaf 260 (.code aNT)))) (.node 263 (.leaf 261 (.code aNU)) (.node 264 (.leaf 263 (.code aGq)) (.leaf 264 (.code aNV))))))) (.node 277 (.node 271 (.node 268 (.node 266 (.leaf 265 (.code aNW)) (.node 267 (.leaf 266 (.code aNX)) (.leaf 267 (.code aNY)))) (.node 269 (.leaf 268 (.code aNZ)) (.node 270 (.leaf 269 (.code aN0)) (.leaf 270 (.code aBb))))) (.node 274 (.node 272 (.leaf 271 (.code aN1)) (.node 273 (.leaf 272 (.code aN2)) (.leaf 273 (.code aN3)))) (.node 275 (.leaf 274 (.code aN4)) (.node 276 (.leaf 275 (.code aN5)) (.leaf 276 (.code aN6)))))) (.node 286 (.node 283 (.node 281 (.leaf 277 (.prim false GF)) (.node 282 (.leaf 281 (.code aN7)) (.leaf 282 (.code aN8)))) (.node 284 (.leaf 283 (.code aN9)) (.node 285 (.leaf 284 (.code aOa)) (.leaf 285 (.code aOb))))) (.node 289 (.node 287 (.leaf 286 (.code aCS)) (.node 288 (.leaf 287 (.code aOc)) (.leaf 288 (.code aOd)))) (.node 292 (.node 291 (.leaf 289 (.code aOe)) (.leaf 291 (.code aOf))) (.node 293 (.leaf 292 (.code aOg)) (.leaf 293 (.prim false (gG 1))))))))))
theorem ZU:aQD.All (DW Go.Proofs.Tryz.prog):=⟨⟨⟨⟨⟨⟨⟨aQC,⟨aLp,aLq⟩⟩,⟨aLr,⟨aLs,aLt⟩⟩⟩,⟨⟨aLu,⟨aLv,aLw⟩⟩,⟨aLx,⟨aLy,aLz⟩⟩⟩⟩,⟨⟨⟨aLA,⟨aLB,aLC⟩⟩,⟨aLD,⟨aLE,aLF⟩⟩⟩,⟨⟨aLG,⟨aLH,aLI⟩⟩,⟨aLJ,⟨aLK,aLL⟩⟩⟩⟩⟩,⟨⟨⟨⟨aLM,⟨aLN,aLO⟩⟩,⟨aLP,⟨aLQ,aLR⟩⟩⟩,⟨⟨aLS,⟨aLT,aLU⟩⟩,⟨aLV,⟨aLW,aLX⟩⟩⟩⟩,⟨⟨⟨aLY,⟨aLZ,aL0⟩⟩,⟨aL1,⟨aL2,aL3⟩⟩⟩,⟨⟨aL4,⟨aL5,aL6⟩⟩,⟨aL7,⟨aL8,aOh⟩⟩⟩⟩⟩⟩,⟨⟨⟨⟨⟨aL9,⟨aMa,aMb⟩⟩,⟨aMc,⟨aMd,aMe⟩⟩⟩,⟨⟨aEF,⟨aEG,aEH⟩⟩,⟨aEI,⟨aEJ,aEK⟩⟩⟩⟩,⟨⟨⟨aEL,⟨aEM,aEN⟩⟩,⟨aEO,⟨aEP,aEQ⟩⟩⟩,⟨⟨aER,⟨aES,aET⟩⟩,⟨aEU,⟨aEV,aEW⟩⟩⟩⟩⟩,⟨⟨⟨⟨aEX,⟨aEY,aEZ⟩⟩,⟨aE0,⟨aE1,aE2⟩⟩⟩,⟨⟨aE3,⟨aE4,aE5⟩⟩,⟨aE6,⟨aE7,aE8⟩⟩⟩⟩,⟨⟨⟨aE9,⟨aFa,aFb⟩⟩,⟨aFc,⟨aFd,aFe⟩⟩⟩,⟨⟨aFf,⟨aFg,aFh⟩⟩,⟨aFi,⟨aFj,aFk⟩⟩⟩⟩⟩⟩⟩,⟨⟨⟨⟨⟨⟨aFl,⟨aFm,aFn⟩⟩,⟨aFo,⟨aFp,aFq⟩⟩⟩,⟨⟨aFr,⟨aFs,aFt⟩⟩,⟨aFu,⟨aFv,aFw⟩⟩⟩⟩,⟨⟨⟨aFx,⟨aFy,aFz⟩⟩,⟨aFA,⟨aFB,aFC⟩⟩⟩,⟨⟨aFD,⟨aGQ,aGR⟩⟩,⟨aGS,⟨aGT,aGU⟩⟩⟩⟩⟩,⟨⟨⟨⟨aFE,⟨aFF,aFG⟩⟩,⟨aFH,⟨aFI,aFJ⟩⟩⟩,⟨⟨aFK,⟨aFL,aFM⟩⟩,⟨aFN,⟨aFO,aFP⟩⟩⟩⟩,⟨⟨⟨aFQ,⟨aFR,aFS⟩⟩,⟨aFU,⟨aFW,aFX⟩⟩⟩,⟨⟨aFY,⟨aFZ,aF0⟩⟩,⟨aF1,⟨aF2,aF3⟩⟩⟩⟩⟩⟩,⟨⟨⟨⟨⟨aF4,⟨aF5,aF6⟩⟩,⟨aF7,⟨aF8,aF9⟩⟩⟩,⟨⟨aGa,⟨aGb,aGc⟩⟩,⟨aGd,⟨aGe,aGf⟩⟩⟩⟩,⟨⟨⟨aGg,⟨aGh,aGi⟩⟩,⟨aGj,⟨aGk,aGl⟩⟩⟩,⟨⟨aGm,⟨aGn,aGo⟩⟩,⟨aGp,⟨aGr,aGs⟩⟩⟩⟩⟩,⟨⟨⟨⟨aGt,⟨aGu,aGv⟩⟩,⟨aGw,⟨aGx,aGy⟩⟩⟩,⟨⟨aGz,⟨aGA,aGB⟩⟩,⟨aGC,⟨aGD,aGE⟩⟩⟩⟩,⟨⟨⟨aGV,⟨aGF,aGG⟩⟩,⟨aGH,⟨aGI,aGJ⟩⟩⟩,⟨⟨aGK,⟨aGL,aGM⟩⟩,⟨⟨aGN,aGO⟩,⟨aGP,aGW⟩⟩⟩⟩⟩⟩⟩⟩
noncomputable def tab:pW:=aQD.get
theorem aKY:tab 8=some (.code x8):=rfl
theorem aOi:tab 10=some (.code x10):=rfl
theorem aOj:tab 11=some (.code x11):=rfl
theorem aOk:tab 12=some (.code x12):=rfl
theorem aOl:tab 14=some (.code x14):=rfl
theorem aOm:tab 16=some (.code x16):=rfl
theorem aOn:tab 19=some (.code x19):=rfl
theorem aOo:tab 20=some (.code x20):=rfl
theorem aOp:tab 21=some (.code x21):=rfl
theorem aOq:tab 22=some (.code x22):=rfl
theorem aOr:tab 23=some (.code x23):=rfl
theorem aOs:tab 24=some (.code x24):=rfl
theorem aOt:tab 25=some (.code x25):=rfl
theorem aOu:tab 26=some (.code x26):=rfl
theorem aOv:tab 28=some (.code x28):=rfl
theorem aOw:tab 36=some (.code x36):=rfl
theorem aOx:tab 41=some (.code x41):=rfl
theorem aOy:tab 42=some (.code x42):=rfl
theorem aOz:tab 43=some (.code x43):=rfl
theorem aOA:tab 45=some (.code x45):=rfl
theorem aOB:tab 46=some (.code x46):=rfl
theorem aOC:tab 47=some (.code x47):=rfl
theorem aOD:tab 48=some (.code x48):=rfl
theorem aOE:tab 51=some (.code x51):=rfl
theorem aOF:tab 52=some (.code x52):=rfl
theorem aOG:tab 53=some (.code x53):=rfl
theorem aOH:tab 54=some (.code x54):=rfl
theorem aOI:tab 57=some (.code x57):=rfl
theorem aOJ:tab 58=some (.code x58):=rfl
theorem aOK:tab 59=some (.code x59):=rfl
theorem aOL:tab 60=some (.code x60):=rfl
theorem aOM:tab 62=some (.code x62):=rfl
theorem aON:tab 63=some (.code x63):=rfl
theorem aOO:tab 64=some (.code x64):=rfl
theorem aOP:tab 65=some (.code x65):=rfl
theorem aOQ:tab 66=some (.code x66):=rfl
theorem aOR:tab 67=some (.code x67):=rfl
theorem aOS:tab 68=some (.code x68):=rfl
theorem aOT:tab 69=some (.code x69):=rfl
theorem aOU:tab 70=some (.code x70):=rfl
theorem aOV:tab 72=some (.code x72):=rfl
theorem aOW:tab 73=some (.code x73):=rfl
theorem aOX:tab 74=some (.code x74):=rfl
theorem aOY:tab 75=some (.code x75):=rfl
theorem aOZ:tab 85=some (.code x85):=rfl
theorem aO0:tab 86=some (.code x86):=rfl
theorem aO1:tab 87=some (.code x87):=rfl
theorem aO2:tab 89=some (.prim false (gG 3)):=rfl
theorem aO3:tab 90=some (.code x90):=rfl
theorem aO4:tab 95=some (.code x95):=rfl
theorem aO5:tab 96=some (.code x96):=rfl
theorem aO6:tab 97=some (.code x97):=rfl
theorem aO7:tab 98=some (.code x98):=rfl
theorem aO8:tab 99=some (.code x99):=rfl
theorem aGX:tab 100=some (.code aMf):=rfl
theorem aGY:tab 104=some (.code aMg):=rfl
theorem aGZ:tab 105=some (.code aMh):=rfl
theorem aG0:tab 106=some (.code aMi):=rfl
theorem ZV:tab 110=some (.code aMj):=rfl
theorem aG1:tab 111=some (.code aMk):=rfl
theorem aG2:tab 114=some (.code aMl):=rfl
theorem aG3:tab 115=some (.code aMm):=rfl
theorem aG4:tab 116=some (.code aMn):=rfl
theorem aG5:tab 117=some (.code aMo):=rfl
theorem aG6:tab 118=some (.code aMp):=rfl
theorem aG7:tab 119=some (.code aMq):=rfl
theorem aG8:tab 120=some (.code aMr):=rfl
theorem aG9:tab 121=some (.code aMs):=rfl
theorem aHa:tab 122=some (.code aMt):=rfl
theorem aHb:tab 123=some (.code aMu):=rfl
theorem aHc:tab 124=some (.code aMv):=rfl
theorem aHd:tab 125=some (.code aMw):=rfl
theorem aHe:tab 128=some (.code aMx):=rfl
theorem aHf:tab 129=some (.code aMy):=rfl
theorem aHg:tab 130=some (.code aMz):=rfl
theorem aHh:tab 131=some (.code aMA):=rfl
theorem aHi:tab 132=some (.code aMB):=rfl
theorem aHj:tab 133=some (.code aMC):=rfl
theorem aHk:tab 134=some (.code aMD):=rfl
theorem aHl:tab 135=some (.code aME):=rfl
theorem ZW:tab 136=some (.code aMF):=rfl
theorem aHm:tab 141=some (.code aMG):=rfl
theorem ZX:tab 142=some (.code aMH):=rfl
theorem aHn:tab 143=some (.code aMI):=rfl
theorem aHo:tab 144=some (.code aMJ):=rfl
theorem aHp:tab 151=some (.code aMK):=rfl
theorem aHq:tab 152=some (.code aML):=rfl
theorem ZY:tab 153=some (.code aCR):=rfl
theorem aHr:tab 154=some (.code aMM):=rfl
theorem aHs:tab 155=some (.code aMN):=rfl
theorem aHt:tab 158=some (.code aMO):=rfl
theorem aHu:tab 163=some (.code aMP):=rfl
theorem aHv:tab 164=some (.code aMQ):=rfl
theorem ZZ:tab 165=some (.code aMR):=rfl
theorem aHw:tab 166=some (.code aMS):=rfl
theorem aHx:tab 167=some (.code aMT):=rfl
theorem Z0:tab 168=some (.code aMU):=rfl
theorem aHy:tab 174=some (.code aMV):=rfl
theorem aHz:tab 175=some (.code aMW):=rfl
theorem aHA:tab 176=some (.code aMX):=rfl
theorem aHB:tab 177=some (.code aMY):=rfl
theorem aHC:tab 178=some (.code aMZ):=rfl
theorem aHD:tab 179=some (.code aM0):=rfl
theorem aHE:tab 180=some (.code aM1):=rfl
theorem aHF:tab 181=some (.code aM2):=rfl
theorem aHG:tab 182=some (.code aM3):=rfl
theorem aHH:tab 183=some (.code aM4):=rfl
theorem aHI:tab 185=some (.code aM5):=rfl
theorem aHJ:tab 186=some (.code aM6):=rfl
theorem aHK:tab 187=some (.code aM7):=rfl
theorem aHL:tab 188=some (.code aM8):=rfl
theorem aHM:tab 189=some (.code aM9):=rfl
theorem aHN:tab 190=some (.code aNa):=rfl
theorem aHO:tab 191=some (.code aNb):=rfl
theorem aHP:tab 192=some (.code aNc):=rfl
theorem aHQ:tab 193=some (.prim false (gG 3)):=rfl
theorem aHR:tab 194=some (.prim false (gG 3)):=rfl
theorem aHS:tab 195=some (.prim false (gG 5)):=rfl
theorem aHT:tab 196=some (.prim false (gG 1)):=rfl
theorem aHU:tab 197=some (.prim false (gG 1)):=rfl
theorem aHV:tab 199=some (.code aNd):=rfl
theorem aHW:tab 201=some (.code aNe):=rfl
theorem aHX:tab 202=some (.code aNf):=rfl
theorem aHY:tab 203=some (.code aNg):=rfl
theorem aHZ:tab 204=some (.code aNh):=rfl
theorem aH0:tab 205=some (.code aNi):=rfl
theorem aH1:tab 207=some (.code aNj):=rfl
theorem aH2:tab 209=some (.code aNk):=rfl
theorem aH3:tab 210=some (.code aNl):=rfl
theorem aH4:tab 211=some (.code aNm):=rfl
theorem aH5:tab 212=some (.code aNn):=rfl
theorem aH6:tab 213=some (.code aNo):=rfl
theorem Z1:tab 214=some (.code aNp):=rfl
theorem aH7:tab 215=some (.code aNq):=rfl
theorem aH8:tab 216=some (.code aNr):=rfl
theorem aH9:tab 222=some (.code aFT):=rfl
theorem aIa:tab 223=some (.code aFV):=rfl
theorem aIb:tab 224=some (.code aNs):=rfl
theorem aIc:tab 225=some (.code aNt):=rfl
theorem aId:tab 226=some (.code aNu):=rfl
theorem aIe:tab 227=some (.code aNv):=rfl
theorem aIf:tab 228=some (.code aNw):=rfl
theorem aIg:tab 229=some (.code aNx):=rfl
theorem aIh:tab 230=some (.code aNy):=rfl
theorem aIi:tab 231=some (.code aNz):=rfl
theorem aIj:tab 232=some (.code aNA):=rfl
theorem aIk:tab 233=some (.code aNB):=rfl
theorem aIl:tab 235=some (.code aNC):=rfl
theorem aSy:tab 236=some (.code aND):=rfl
theorem aSz:tab 237=some (.code aNE):=rfl
theorem aSA:tab 238=some (.code aNF):=rfl
theorem aSB:tab 239=some (.code aNG):=rfl
theorem aSC:tab 240=some (.code aNH):=rfl
theorem aSD:tab 241=some (.code aNI):=rfl
theorem aSE:tab 242=some (.code aNJ):=rfl
theorem aIm:tab 243=some (.code aNK):=rfl
theorem aIn:tab 244=some (.code aNL):=rfl
theorem aIo:tab 245=some (.code aNM):=rfl
theorem aIp:tab 246=some (.code aNN):=rfl
theorem aIq:tab 247=some (.code aNO):=rfl
theorem aIr:tab 256=some (.code aNP):=rfl
theorem aIs:tab 257=some (.code aNQ):=rfl
theorem aIt:tab 258=some (.code aNR):=rfl
theorem Z2:tab 259=some (.code aNS):=rfl
theorem aIu:tab 260=some (.code aNT):=rfl
theorem aIv:tab 261=some (.code aNU):=rfl
theorem aIw:tab 263=some (.code aGq):=rfl
theorem aIx:tab 264=some (.code aNV):=rfl
theorem aIy:tab 265=some (.code aNW):=rfl
theorem aIz:tab 266=some (.code aNX):=rfl
theorem aIA:tab 267=some (.code aNY):=rfl
theorem aIB:tab 268=some (.code aNZ):=rfl
theorem aIC:tab 269=some (.code aN0):=rfl
theorem R2:tab 270=some (.code aBb):=rfl
theorem Z3:tab 271=some (.code aN1):=rfl
theorem aSF:tab 272=some (.code aN2):=rfl
theorem aSG:tab 273=some (.code aN3):=rfl
theorem aSH:tab 274=some (.code aN4):=rfl
theorem aSI:tab 275=some (.code aN5):=rfl
theorem aSJ:tab 276=some (.code aN6):=rfl
theorem aID:tab 277=some (.prim false GF):=rfl
theorem aIE:tab 281=some (.code aN7):=rfl
theorem aIF:tab 282=some (.code aN8):=rfl
theorem aIG:tab 283=some (.code aN9):=rfl
theorem aIH:tab 284=some (.code aOa):=rfl
theorem aII:tab 285=some (.code aOb):=rfl
theorem Z4:tab 286=some (.code aCS):=rfl
theorem aIJ:tab 287=some (.code aOc):=rfl
theorem Z5:tab 288=some (.code aOd):=rfl
theorem aSK:tab 289=some (.code aOe):=rfl
theorem aIK:tab 291=some (.code aOf):=rfl
theorem aIL:tab 292=some (.code aOg):=rfl
theorem aIM:tab 293=some (.prim false (gG 1)):=rfl
end Go.Proofs.YtbncnimfgdelaaaGreat
