/- The table of the seat's functions. Printed by a program. -/
import Derived.Test.YtbncnimfgdelaaaGreatCBQX1
import Derived.Test.YtbncnimfgdelaaaGreatCBQIN
import Derived.Test.YtbncnimfgdelaaaGreatChecked
set_option maxRecDepth 100000
namespace Go.Proofs.YtbncnimfgdelaaaGreat
open Go.Vm
theorem oV:Go.Proofs.Tryz.prog.follows .mixedOrders=true:=Go.Proofs.Tryz.checked.mixed
theorem aPT:DN Go.Proofs.Tryz.prog 88 (.shp (RQ 3)):=aPS
theorem aPU:DN Go.Proofs.Tryz.prog 89 (.prim false (gJ 3)):=⟨rfl,qZ oV (zero:=[.int .i64 0,.int .i64 0,.int .i64 0]) (by decide+kernel)⟩
theorem aHL:DN Go.Proofs.Tryz.prog 193 (.prim false (gJ 3)):=⟨rfl,qZ oV (zero:=[.int .i64 0,.int .i64 0,.int .i64 0]) (by decide+kernel)⟩
theorem aHM:DN Go.Proofs.Tryz.prog 194 (.prim false (gJ 3)):=⟨rfl,qZ oV (zero:=[.int .i64 0,.int .i64 0,.int .i64 0]) (by decide+kernel)⟩
theorem aHN:DN Go.Proofs.Tryz.prog 195 (.prim false (gJ 5)):=⟨rfl,qZ oV (zero:=[.int .i64 0,.int .i64 0,.int .i64 0,.int .i64 0,.int .i64 0]) (by decide+kernel)⟩
theorem aHO:DN Go.Proofs.Tryz.prog 196 (.prim false (gJ 1)):=⟨rfl,qZ oV (zero:=[.int .i64 0]) (by decide+kernel)⟩
theorem aHP:DN Go.Proofs.Tryz.prog 197 (.prim false (gJ 1)):=⟨rfl,qZ oV (zero:=[.bool false]) (by decide+kernel)⟩
theorem aHQ:DN Go.Proofs.Tryz.prog 277 (.prim false GR):=⟨rfl,X1 Go.Proofs.Tryz.func277 (by kernel_rfl) (by kernel_rfl) (by kernel_rfl) (by kernel_rfl)⟩
theorem aHR:DN Go.Proofs.Tryz.prog 293 (.prim false (gJ 1)):=⟨rfl,qZ oV (zero:=[.int .i64 0]) (by decide+kernel)⟩
noncomputable def aSH:TT:= .node 139 (.node 80 (.node 45 (.node 29 (.node 21 (.node 18 (.node 10 (.leaf 5 (.code x5)) (.node 11 (.leaf 10 (.code x10)) (.leaf 11 (.code x11)))) (.node 19 (.leaf 18 (.code x18)) (.node 20 (.leaf 19 (.code x19)) (.leaf 20 (.code x20))))) (.node 25 (.node 23 (.leaf 21 (.code x21)) (.node 24 (.leaf 23 (.code x23)) (.leaf 24 (.code x24)))) (.node 27 (.node 26 (.leaf 25 (.code x25)) (.leaf 26 (.code x26))) (.node 28 (.leaf 27 (.code x27)) (.leaf 28 (.code x28)))))) (.node 35 (.node 32 (.node 30 (.leaf 29 (.code x29)) (.node 31 (.leaf 30 (.code x30)) (.leaf 31 (.code x31)))) (.node 33 (.leaf 32 (.code x32)) (.node 34 (.leaf 33 (.code x33)) (.leaf 34 (.code x34))))) (.node 39 (.node 37 (.leaf 35 (.code x35)) (.node 38 (.leaf 37 (.code x37)) (.leaf 38 (.code x38)))) (.node 41 (.node 40 (.leaf 39 (.code x39)) (.leaf 40 (.code x40))) (.node 44 (.leaf 41 (.code x41)) (.leaf 44 (.code x44))))))) (.node 66 (.node 58 (.node 54 (.node 51 (.leaf 45 (.code x45)) (.node 52 (.leaf 51 (.code x51)) (.leaf 52 (.code x52)))) (.node 55 (.leaf 54 (.code x54)) (.node 57 (.leaf 55 (.code x55)) (.leaf 57 (.code x57))))) (.node 62 (.node 60 (.leaf 58 (.code x58)) (.node 61 (.leaf 60 (.code x60)) (.leaf 61 (.code x61)))) (.node 64 (.node 63 (.leaf 62 (.code x62)) (.leaf 63 (.code x63))) (.node 65 (.leaf 64 (.code x64)) (.leaf 65 (.code x65)))))) (.node 73 (.node 69 (.node 67 (.leaf 66 (.code x66)) (.node 68 (.leaf 67 (.code x67)) (.leaf 68 (.code x68)))) (.node 71 (.node 70 (.leaf 69 (.code x69)) (.leaf 70 (.code x70))) (.node 72 (.leaf 71 (.code x71)) (.leaf 72 (.code x72))))) (.node 76 (.node 74 (.leaf 73 (.code x73)) (.node 75 (.leaf 74 (.code x74)) (.leaf 75 (.code x75)))) (.node 78 (.node 77 (.leaf 76 (.code x76)) (.leaf 77 (.code x77))) (.node 79 (.leaf 78 (.code x78)) (.leaf 79 (.code x79)))))))) (.node 112 (.node 93 (.node 86 (.node 83 (.node 81 (.leaf 80 (.code x80)) (.node 82 (.leaf 81 (.code x81)) (.leaf 82 (.code x82)))) (.node 84 (.leaf 83 (.code x83)) (.node 85 (.leaf 84 (.code x84)) (.leaf 85 (.code x85))))) (.node 89 (.node 87 (.leaf 86 (.code x86)) (.node 88 (.leaf 87 (.code x87)) (.leaf 88 (.shp (RQ 3))))) (.node 91 (.node 90 (.leaf 89 (.prim false (gJ 3))) (.leaf 90 (.code x90))) (.node 92 (.leaf 91 (.code x91)) (.leaf 92 (.code x92)))))) (.node 100 (.node 96 (.node 94 (.leaf 93 (.code x93)) (.node 95 (.leaf 94 (.code x94)) (.leaf 95 (.code x95)))) (.node 97 (.leaf 96 (.code x96)) (.node 99 (.leaf 97 (.code x97)) (.leaf 99 (.code x99))))) (.node 107 (.node 104 (.leaf 100 (.code aNO)) (.node 106 (.leaf 104 (.code aNP)) (.leaf 106 (.code aNQ)))) (.node 110 (.node 108 (.leaf 107 (.code aNR)) (.leaf 108 (.code aNS))) (.node 111 (.leaf 110 (.code aNT)) (.leaf 111 (.code aNU))))))) (.node 125 (.node 118 (.node 115 (.node 113 (.leaf 112 (.code aNV)) (.node 114 (.leaf 113 (.code aNW)) (.leaf 114 (.code aNX)))) (.node 116 (.leaf 115 (.code aNY)) (.node 117 (.leaf 116 (.code aNZ)) (.leaf 117 (.code aN0))))) (.node 121 (.node 119 (.leaf 118 (.code aN1)) (.node 120 (.leaf 119 (.code aN2)) (.leaf 120 (.code aN3)))) (.node 123 (.node 122 (.leaf 121 (.code aN4)) (.leaf 122 (.code aN5))) (.node 124 (.leaf 123 (.code aN6)) (.leaf 124 (.code aN7)))))) (.node 132 (.node 128 (.node 126 (.leaf 125 (.code aN8)) (.node 127 (.leaf 126 (.code aN9)) (.leaf 127 (.code aOa)))) (.node 130 (.node 129 (.leaf 128 (.code aOb)) (.leaf 129 (.code aOc))) (.node 131 (.leaf 130 (.code aOd)) (.leaf 131 (.code aOe))))) (.node 135 (.node 133 (.leaf 132 (.code aOf)) (.node 134 (.leaf 133 (.code aOg)) (.leaf 134 (.code aOh)))) (.node 137 (.node 136 (.leaf 135 (.code aOi)) (.leaf 136 (.code aOj))) (.node 138 (.leaf 137 (.code aOk)) (.leaf 138 (.code aOl))))))))) (.node 211 (.node 178 (.node 158 (.node 147 (.node 142 (.node 140 (.leaf 139 (.code aOm)) (.node 141 (.leaf 140 (.code aOn)) (.leaf 141 (.code aOo)))) (.node 143 (.leaf 142 (.code aOp)) (.node 144 (.leaf 143 (.code aOq)) (.leaf 144 (.code aOr))))) (.node 150 (.node 148 (.leaf 147 (.code aOs)) (.node 149 (.leaf 148 (.code aOt)) (.leaf 149 (.code aOu)))) (.node 154 (.node 151 (.leaf 150 (.code aOv)) (.leaf 151 (.code aOw))) (.node 155 (.leaf 154 (.code aOx)) (.leaf 155 (.code aOy)))))) (.node 170 (.node 167 (.node 163 (.leaf 158 (.code aOz)) (.node 166 (.leaf 163 (.code aOA)) (.leaf 166 (.code aOB)))) (.node 168 (.leaf 167 (.code aOC)) (.node 169 (.leaf 168 (.code aOD)) (.leaf 169 (.code aOE))))) (.node 174 (.node 172 (.leaf 170 (.code aOF)) (.node 173 (.leaf 172 (.code aOG)) (.leaf 173 (.code aOH)))) (.node 176 (.node 175 (.leaf 174 (.code aOI)) (.leaf 175 (.code aOJ))) (.node 177 (.leaf 176 (.code aOK)) (.leaf 177 (.code aOL))))))) (.node 191 (.node 184 (.node 181 (.node 179 (.leaf 178 (.code aOM)) (.node 180 (.leaf 179 (.code aON)) (.leaf 180 (.code aOO)))) (.node 182 (.leaf 181 (.code aOP)) (.node 183 (.leaf 182 (.code aOQ)) (.leaf 183 (.code aOR))))) (.node 187 (.node 185 (.leaf 184 (.code aOS)) (.node 186 (.leaf 185 (.code aOT)) (.leaf 186 (.code aOU)))) (.node 189 (.node 188 (.leaf 187 (.code aOV)) (.leaf 188 (.code aOW))) (.node 190 (.leaf 189 (.code aOX)) (.leaf 190 (.code aOY)))))) (.node 198 (.node 194 (.node 192 (.leaf 191 (.code aOZ)) (.node 193 (.leaf 192 (.code aO0)) (.leaf 193 (.prim false (gJ 3))))) (.node 196 (.node 195 (.leaf 194 (.prim false (gJ 3))) (.leaf 195 (.prim false (gJ 5)))) (.node 197 (.leaf 196 (.prim false (gJ 1))) (.leaf 197 (.prim false (gJ 1)))))) (.node 204 (.node 199 (.leaf 198 (.code aO1)) (.node 203 (.leaf 199 (.code aO2)) (.leaf 203 (.code aO3)))) (.node 207 (.node 205 (.leaf 204 (.code aO4)) (.leaf 205 (.code aO5))) (.node 209 (.leaf 207 (.code aO6)) (.leaf 209 (.code aO7)))))))) (.node 257 (.node 224 (.node 217 (.node 214 (.node 212 (.leaf 211 (.code aO8)) (.node 213 (.leaf 212 (.code aO9)) (.leaf 213 (.code aPa)))) (.node 215 (.leaf 214 (.code aPb)) (.node 216 (.leaf 215 (.code aPc)) (.leaf 216 (.code aPd))))) (.node 220 (.node 218 (.leaf 217 (.code aPe)) (.node 219 (.leaf 218 (.code aPf)) (.leaf 219 (.code aPg)))) (.node 222 (.node 221 (.leaf 220 (.code aPh)) (.leaf 221 (.code aPi))) (.node 223 (.leaf 222 (.code aG3)) (.leaf 223 (.code aG5)))))) (.node 230 (.node 227 (.node 225 (.leaf 224 (.code aPj)) (.node 226 (.leaf 225 (.code aPk)) (.leaf 226 (.code aPl)))) (.node 228 (.leaf 227 (.code aPm)) (.node 229 (.leaf 228 (.code aPn)) (.leaf 229 (.code aPo))))) (.node 233 (.node 231 (.leaf 230 (.code aPp)) (.node 232 (.leaf 231 (.code aPq)) (.leaf 232 (.code aPr)))) (.node 246 (.node 245 (.leaf 233 (.code aPs)) (.leaf 245 (.code aPt))) (.node 247 (.leaf 246 (.code aPu)) (.leaf 247 (.code aPv))))))) (.node 270 (.node 263 (.node 260 (.node 258 (.leaf 257 (.code aPw)) (.node 259 (.leaf 258 (.code aPx)) (.leaf 259 (.code aPy)))) (.node 261 (.leaf 260 (.code aPz)) (.node 262 (.leaf 261 (.code aPA)) (.leaf 262 (.code aPB))))) (.node 266 (.node 264 (.leaf 263 (.code aHq)) (.node 265 (.leaf 264 (.code aPC)) (.leaf 265 (.code aPD)))) (.node 268 (.node 267 (.leaf 266 (.code aPE)) (.leaf 267 (.code aPF))) (.node 269 (.leaf 268 (.code aPG)) (.leaf 269 (.code aPH)))))) (.node 285 (.node 281 (.node 271 (.leaf 270 (.code aB4)) (.node 277 (.leaf 271 (.code aPI)) (.leaf 277 (.prim false GR)))) (.node 283 (.node 282 (.leaf 281 (.code aPJ)) (.leaf 282 (.code aPK))) (.node 284 (.leaf 283 (.code aPL)) (.leaf 284 (.code aPM))))) (.node 288 (.node 286 (.leaf 285 (.code aPN)) (.node 287 (.leaf 286 (.code aDL)) (.leaf 287 (.code aPO)))) (.node 292 (.node 291 (.leaf 288 (.code aPP)) (.leaf 291 (.code aPQ))) (.node 293 (.leaf 292 (.code aPR)) (.leaf 293 (.prim false (gJ 1))))))))))
theorem aAD:aSH.All (DN Go.Proofs.Tryz.prog):=⟨⟨⟨⟨⟨⟨⟨aSG,⟨aMH,aMI⟩⟩,⟨aMJ,⟨aMK,aML⟩⟩⟩,⟨⟨aMM,⟨aMN,aMO⟩⟩,⟨⟨aMP,aMQ⟩,⟨aMR,aMS⟩⟩⟩⟩,⟨⟨⟨aMT,⟨aMU,aMV⟩⟩,⟨aMW,⟨aMX,aMY⟩⟩⟩,⟨⟨aMZ,⟨aM0,aM1⟩⟩,⟨⟨aM2,aM3⟩,⟨aM4,aM5⟩⟩⟩⟩⟩,⟨⟨⟨⟨aM6,⟨aM7,aM8⟩⟩,⟨aM9,⟨aNa,aNb⟩⟩⟩,⟨⟨aNc,⟨aNd,aNe⟩⟩,⟨⟨aNf,aNg⟩,⟨aNh,aNi⟩⟩⟩⟩,⟨⟨⟨aNj,⟨aNk,aNl⟩⟩,⟨⟨aNm,aNn⟩,⟨aNo,aNp⟩⟩⟩,⟨⟨aNq,⟨aNr,aNs⟩⟩,⟨⟨aNt,aNu⟩,⟨aNv,aNw⟩⟩⟩⟩⟩⟩,⟨⟨⟨⟨⟨aNx,⟨aNy,aNz⟩⟩,⟨aNA,⟨aNB,aNC⟩⟩⟩,⟨⟨aND,⟨aNE,aPT⟩⟩,⟨⟨aPU,aNF⟩,⟨aNG,aNH⟩⟩⟩⟩,⟨⟨⟨aNI,⟨aNJ,aNK⟩⟩,⟨aNL,⟨aNM,aNN⟩⟩⟩,⟨⟨aFy,⟨aFz,aFA⟩⟩,⟨⟨aFB,aFC⟩,⟨aFD,aFE⟩⟩⟩⟩⟩,⟨⟨⟨⟨aFF,⟨aFG,aFH⟩⟩,⟨aFI,⟨aFJ,aFK⟩⟩⟩,⟨⟨aFL,⟨aFM,aFN⟩⟩,⟨⟨aFO,aFP⟩,⟨aFQ,aFR⟩⟩⟩⟩,⟨⟨⟨aFS,⟨aFT,aFU⟩⟩,⟨⟨aFV,aFW⟩,⟨aFX,aFY⟩⟩⟩,⟨⟨aFZ,⟨aF0,aF1⟩⟩,⟨⟨aF2,aF3⟩,⟨aF4,aF5⟩⟩⟩⟩⟩⟩⟩,⟨⟨⟨⟨⟨⟨aF6,⟨aF7,aF8⟩⟩,⟨aF9,⟨aGa,aGb⟩⟩⟩,⟨⟨aGc,⟨aGd,aGe⟩⟩,⟨⟨aGf,aGg⟩,⟨aGh,aGi⟩⟩⟩⟩,⟨⟨⟨aGj,⟨aGk,aGl⟩⟩,⟨aGm,⟨aGn,aGo⟩⟩⟩,⟨⟨aGp,⟨aGq,aGr⟩⟩,⟨⟨aGs,aGt⟩,⟨aGu,aGv⟩⟩⟩⟩⟩,⟨⟨⟨⟨aGw,⟨aGx,aGy⟩⟩,⟨aGz,⟨aGA,aGB⟩⟩⟩,⟨⟨aGC,⟨aGD,aGE⟩⟩,⟨⟨aGF,aGG⟩,⟨aGH,aGI⟩⟩⟩⟩,⟨⟨⟨aGJ,⟨aGK,aHL⟩⟩,⟨⟨aHM,aHN⟩,⟨aHO,aHP⟩⟩⟩,⟨⟨aGL,⟨aGM,aGN⟩⟩,⟨⟨aGO,aGP⟩,⟨aGQ,aGR⟩⟩⟩⟩⟩⟩,⟨⟨⟨⟨⟨aGS,⟨aGT,aGU⟩⟩,⟨aGV,⟨aGW,aGX⟩⟩⟩,⟨⟨aGY,⟨aGZ,aG0⟩⟩,⟨⟨aG1,aG2⟩,⟨aG4,aG6⟩⟩⟩⟩,⟨⟨⟨aG7,⟨aG8,aG9⟩⟩,⟨aHa,⟨aHb,aHc⟩⟩⟩,⟨⟨aHd,⟨aHe,aHf⟩⟩,⟨⟨aHg,aHh⟩,⟨aHi,aHj⟩⟩⟩⟩⟩,⟨⟨⟨⟨aHk,⟨aHl,aHm⟩⟩,⟨aHn,⟨aHo,aHp⟩⟩⟩,⟨⟨aHr,⟨aHs,aHt⟩⟩,⟨⟨aHu,aHv⟩,⟨aHw,aHx⟩⟩⟩⟩,⟨⟨⟨aHy,⟨aHz,aHQ⟩⟩,⟨⟨aHA,aHB⟩,⟨aHC,aHD⟩⟩⟩,⟨⟨aHE,⟨aHF,aHG⟩⟩,⟨⟨aHH,aHI⟩,⟨aHJ,aHR⟩⟩⟩⟩⟩⟩⟩⟩
noncomputable def tab:qY:=aSH.get
theorem aMf:tab 5=some (.code x5):=rfl
theorem aPV:tab 10=some (.code x10):=rfl
theorem aPW:tab 11=some (.code x11):=rfl
theorem aPX:tab 18=some (.code x18):=rfl
theorem aPY:tab 19=some (.code x19):=rfl
theorem aPZ:tab 20=some (.code x20):=rfl
theorem aP0:tab 21=some (.code x21):=rfl
theorem aP1:tab 23=some (.code x23):=rfl
theorem aP2:tab 24=some (.code x24):=rfl
theorem aP3:tab 25=some (.code x25):=rfl
theorem aP4:tab 26=some (.code x26):=rfl
theorem aDO:tab 27=some (.code x27):=rfl
theorem aP5:tab 28=some (.code x28):=rfl
theorem aP6:tab 29=some (.code x29):=rfl
theorem aP7:tab 30=some (.code x30):=rfl
theorem aP8:tab 31=some (.code x31):=rfl
theorem aP9:tab 32=some (.code x32):=rfl
theorem aQa:tab 33=some (.code x33):=rfl
theorem aQb:tab 34=some (.code x34):=rfl
theorem aQc:tab 35=some (.code x35):=rfl
theorem aQd:tab 37=some (.code x37):=rfl
theorem aQe:tab 38=some (.code x38):=rfl
theorem aQf:tab 39=some (.code x39):=rfl
theorem aQg:tab 40=some (.code x40):=rfl
theorem aQh:tab 41=some (.code x41):=rfl
theorem aQi:tab 44=some (.code x44):=rfl
theorem aQj:tab 45=some (.code x45):=rfl
theorem aQk:tab 51=some (.code x51):=rfl
theorem aQl:tab 52=some (.code x52):=rfl
theorem aQm:tab 54=some (.code x54):=rfl
theorem aQn:tab 55=some (.code x55):=rfl
theorem aQo:tab 57=some (.code x57):=rfl
theorem aQp:tab 58=some (.code x58):=rfl
theorem aQq:tab 60=some (.code x60):=rfl
theorem aQr:tab 61=some (.code x61):=rfl
theorem aQs:tab 62=some (.code x62):=rfl
theorem aQt:tab 63=some (.code x63):=rfl
theorem aQu:tab 64=some (.code x64):=rfl
theorem aQv:tab 65=some (.code x65):=rfl
theorem aQw:tab 66=some (.code x66):=rfl
theorem aQx:tab 67=some (.code x67):=rfl
theorem aQy:tab 68=some (.code x68):=rfl
theorem aQz:tab 69=some (.code x69):=rfl
theorem aQA:tab 70=some (.code x70):=rfl
theorem aDP:tab 71=some (.code x71):=rfl
theorem aQB:tab 72=some (.code x72):=rfl
theorem aQC:tab 73=some (.code x73):=rfl
theorem aQD:tab 74=some (.code x74):=rfl
theorem aQE:tab 75=some (.code x75):=rfl
theorem aQF:tab 76=some (.code x76):=rfl
theorem aQG:tab 77=some (.code x77):=rfl
theorem YS:tab 78=some (.code x78):=rfl
theorem aQH:tab 79=some (.code x79):=rfl
theorem aQI:tab 80=some (.code x80):=rfl
theorem aQJ:tab 81=some (.code x81):=rfl
theorem aQK:tab 82=some (.code x82):=rfl
theorem aQL:tab 83=some (.code x83):=rfl
theorem aQM:tab 84=some (.code x84):=rfl
theorem aQN:tab 85=some (.code x85):=rfl
theorem aQO:tab 86=some (.code x86):=rfl
theorem aQP:tab 87=some (.code x87):=rfl
theorem aQQ:tab 88=some (.shp (RQ 3)):=rfl
theorem aQR:tab 89=some (.prim false (gJ 3)):=rfl
theorem aQS:tab 90=some (.code x90):=rfl
theorem aQT:tab 91=some (.code x91):=rfl
theorem aQU:tab 92=some (.code x92):=rfl
theorem aQV:tab 93=some (.code x93):=rfl
theorem aQW:tab 94=some (.code x94):=rfl
theorem aQX:tab 95=some (.code x95):=rfl
theorem aQY:tab 96=some (.code x96):=rfl
theorem aQZ:tab 97=some (.code x97):=rfl
theorem aQ0:tab 99=some (.code x99):=rfl
theorem aHS:tab 100=some (.code aNO):=rfl
theorem aHT:tab 104=some (.code aNP):=rfl
theorem aHU:tab 106=some (.code aNQ):=rfl
theorem aHV:tab 107=some (.code aNR):=rfl
theorem aAE:tab 108=some (.code aNS):=rfl
theorem aAF:tab 110=some (.code aNT):=rfl
theorem aHW:tab 111=some (.code aNU):=rfl
theorem aHX:tab 112=some (.code aNV):=rfl
theorem aHY:tab 113=some (.code aNW):=rfl
theorem aHZ:tab 114=some (.code aNX):=rfl
theorem aH0:tab 115=some (.code aNY):=rfl
theorem aH1:tab 116=some (.code aNZ):=rfl
theorem aH2:tab 117=some (.code aN0):=rfl
theorem aH3:tab 118=some (.code aN1):=rfl
theorem aH4:tab 119=some (.code aN2):=rfl
theorem aH5:tab 120=some (.code aN3):=rfl
theorem aH6:tab 121=some (.code aN4):=rfl
theorem aH7:tab 122=some (.code aN5):=rfl
theorem aH8:tab 123=some (.code aN6):=rfl
theorem aH9:tab 124=some (.code aN7):=rfl
theorem aIa:tab 125=some (.code aN8):=rfl
theorem aAG:tab 126=some (.code aN9):=rfl
theorem aAH:tab 127=some (.code aOa):=rfl
theorem aIb:tab 128=some (.code aOb):=rfl
theorem aIc:tab 129=some (.code aOc):=rfl
theorem aId:tab 130=some (.code aOd):=rfl
theorem aIe:tab 131=some (.code aOe):=rfl
theorem aIf:tab 132=some (.code aOf):=rfl
theorem aIg:tab 133=some (.code aOg):=rfl
theorem aIh:tab 134=some (.code aOh):=rfl
theorem aIi:tab 135=some (.code aOi):=rfl
theorem aAI:tab 136=some (.code aOj):=rfl
theorem aIj:tab 137=some (.code aOk):=rfl
theorem aIk:tab 138=some (.code aOl):=rfl
theorem aIl:tab 139=some (.code aOm):=rfl
theorem aIm:tab 140=some (.code aOn):=rfl
theorem aIn:tab 141=some (.code aOo):=rfl
theorem aAJ:tab 142=some (.code aOp):=rfl
theorem aIo:tab 143=some (.code aOq):=rfl
theorem aIp:tab 144=some (.code aOr):=rfl
theorem SN:tab 147=some (.code aOs):=rfl
theorem aIq:tab 148=some (.code aOt):=rfl
theorem aAK:tab 149=some (.code aOu):=rfl
theorem SP:tab 150=some (.code aOv):=rfl
theorem aIr:tab 151=some (.code aOw):=rfl
theorem aIs:tab 154=some (.code aOx):=rfl
theorem aIt:tab 155=some (.code aOy):=rfl
theorem aIu:tab 158=some (.code aOz):=rfl
theorem aIv:tab 163=some (.code aOA):=rfl
theorem aIw:tab 166=some (.code aOB):=rfl
theorem aIx:tab 167=some (.code aOC):=rfl
theorem aAL:tab 168=some (.code aOD):=rfl
theorem aIy:tab 169=some (.code aOE):=rfl
theorem aIz:tab 170=some (.code aOF):=rfl
theorem aIA:tab 172=some (.code aOG):=rfl
theorem aIB:tab 173=some (.code aOH):=rfl
theorem aIC:tab 174=some (.code aOI):=rfl
theorem aID:tab 175=some (.code aOJ):=rfl
theorem aIE:tab 176=some (.code aOK):=rfl
theorem aIF:tab 177=some (.code aOL):=rfl
theorem aIG:tab 178=some (.code aOM):=rfl
theorem aIH:tab 179=some (.code aON):=rfl
theorem aII:tab 180=some (.code aOO):=rfl
theorem aIJ:tab 181=some (.code aOP):=rfl
theorem aIK:tab 182=some (.code aOQ):=rfl
theorem aIL:tab 183=some (.code aOR):=rfl
theorem aAM:tab 184=some (.code aOS):=rfl
theorem aIM:tab 185=some (.code aOT):=rfl
theorem aIN:tab 186=some (.code aOU):=rfl
theorem aIO:tab 187=some (.code aOV):=rfl
theorem aIP:tab 188=some (.code aOW):=rfl
theorem aIQ:tab 189=some (.code aOX):=rfl
theorem aIR:tab 190=some (.code aOY):=rfl
theorem aIS:tab 191=some (.code aOZ):=rfl
theorem aIT:tab 192=some (.code aO0):=rfl
theorem aIU:tab 193=some (.prim false (gJ 3)):=rfl
theorem aIV:tab 194=some (.prim false (gJ 3)):=rfl
theorem aIW:tab 195=some (.prim false (gJ 5)):=rfl
theorem aIX:tab 196=some (.prim false (gJ 1)):=rfl
theorem aIY:tab 197=some (.prim false (gJ 1)):=rfl
theorem aIZ:tab 198=some (.code aO1):=rfl
theorem aI0:tab 199=some (.code aO2):=rfl
theorem aI1:tab 203=some (.code aO3):=rfl
theorem aI2:tab 204=some (.code aO4):=rfl
theorem aI3:tab 205=some (.code aO5):=rfl
theorem aI4:tab 207=some (.code aO6):=rfl
theorem aI5:tab 209=some (.code aO7):=rfl
theorem aI6:tab 211=some (.code aO8):=rfl
theorem aI7:tab 212=some (.code aO9):=rfl
theorem aI8:tab 213=some (.code aPa):=rfl
theorem aAN:tab 214=some (.code aPb):=rfl
theorem aI9:tab 215=some (.code aPc):=rfl
theorem aJa:tab 216=some (.code aPd):=rfl
theorem aJb:tab 217=some (.code aPe):=rfl
theorem aJc:tab 218=some (.code aPf):=rfl
theorem aJd:tab 219=some (.code aPg):=rfl
theorem aJe:tab 220=some (.code aPh):=rfl
theorem aJf:tab 221=some (.code aPi):=rfl
theorem aJg:tab 222=some (.code aG3):=rfl
theorem aJh:tab 223=some (.code aG5):=rfl
theorem aJi:tab 224=some (.code aPj):=rfl
theorem aJj:tab 225=some (.code aPk):=rfl
theorem aJk:tab 226=some (.code aPl):=rfl
theorem aJl:tab 227=some (.code aPm):=rfl
theorem aJm:tab 228=some (.code aPn):=rfl
theorem aJn:tab 229=some (.code aPo):=rfl
theorem aJo:tab 230=some (.code aPp):=rfl
theorem aJp:tab 231=some (.code aPq):=rfl
theorem aJq:tab 232=some (.code aPr):=rfl
theorem aJr:tab 233=some (.code aPs):=rfl
theorem aJs:tab 245=some (.code aPt):=rfl
theorem aJt:tab 246=some (.code aPu):=rfl
theorem aJu:tab 247=some (.code aPv):=rfl
theorem aJv:tab 257=some (.code aPw):=rfl
theorem aJw:tab 258=some (.code aPx):=rfl
theorem aAO:tab 259=some (.code aPy):=rfl
theorem aJx:tab 260=some (.code aPz):=rfl
theorem aJy:tab 261=some (.code aPA):=rfl
theorem aJz:tab 262=some (.code aPB):=rfl
theorem aJA:tab 263=some (.code aHq):=rfl
theorem aJB:tab 264=some (.code aPC):=rfl
theorem aJC:tab 265=some (.code aPD):=rfl
theorem aJD:tab 266=some (.code aPE):=rfl
theorem aJE:tab 267=some (.code aPF):=rfl
theorem aJF:tab 268=some (.code aPG):=rfl
theorem aJG:tab 269=some (.code aPH):=rfl
theorem SQ:tab 270=some (.code aB4):=rfl
theorem aAP:tab 271=some (.code aPI):=rfl
theorem aJH:tab 277=some (.prim false GR):=rfl
theorem aJI:tab 281=some (.code aPJ):=rfl
theorem aJJ:tab 282=some (.code aPK):=rfl
theorem aJK:tab 283=some (.code aPL):=rfl
theorem aJL:tab 284=some (.code aPM):=rfl
theorem aJM:tab 285=some (.code aPN):=rfl
theorem aAQ:tab 286=some (.code aDL):=rfl
theorem aJN:tab 287=some (.code aPO):=rfl
theorem aAR:tab 288=some (.code aPP):=rfl
theorem aJO:tab 291=some (.code aPQ):=rfl
theorem aJP:tab 292=some (.code aPR):=rfl
theorem aJQ:tab 293=some (.prim false (gJ 1)):=rfl
end Go.Proofs.YtbncnimfgdelaaaGreat
