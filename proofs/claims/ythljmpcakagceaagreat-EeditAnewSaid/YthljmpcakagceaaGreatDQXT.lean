/- The table of the seat's functions. Printed by a program. -/
import Derived.Test.YthljmpcakagceaaGreatDQX1
import Derived.Test.YthljmpcakagceaaGreatDQIN
import Derived.Test.YthljmpcakagceaaGreatChecked
set_option maxRecDepth 100000
namespace Go.Proofs.YthljmpcakagceaaGreat
open Go.Vm
theorem oM:Go.Proofs.Tryz.prog.follows .mixedOrders=true:=Go.Proofs.Tryz.checked.mixed
theorem aHP:C3 Go.Proofs.Tryz.prog 102 (.shp (Q8 3)):=aQs
theorem aHQ:C3 Go.Proofs.Tryz.prog 103 (.prim false (gS 3)):=⟨rfl,qK oM (zero:=[.int .i64 0,.int .i64 0,.int .i64 0]) (by decide+kernel)⟩
theorem aHR:C3 Go.Proofs.Tryz.prog 182 (.prim false (gS 3)):=⟨rfl,qK oM (zero:=[.int .i64 0,.int .i64 0,.int .i64 0]) (by decide+kernel)⟩
theorem aHS:C3 Go.Proofs.Tryz.prog 183 (.prim false (gS 3)):=⟨rfl,qK oM (zero:=[.int .i64 0,.int .i64 0,.int .i64 0]) (by decide+kernel)⟩
theorem aHT:C3 Go.Proofs.Tryz.prog 184 (.prim false (gS 5)):=⟨rfl,qK oM (zero:=[.int .i64 0,.int .i64 0,.int .i64 0,.int .i64 0,.int .i64 0]) (by decide+kernel)⟩
theorem aHU:C3 Go.Proofs.Tryz.prog 185 (.prim false (gS 1)):=⟨rfl,qK oM (zero:=[.int .i64 0]) (by decide+kernel)⟩
theorem aHV:C3 Go.Proofs.Tryz.prog 186 (.prim false (gS 1)):=⟨rfl,qK oM (zero:=[.bool false]) (by decide+kernel)⟩
theorem aHW:C3 Go.Proofs.Tryz.prog 242 (.prim false GK):=⟨rfl,XF Go.Proofs.Tryz.func242 (by kernel_rfl) (by kernel_rfl) (by kernel_rfl) (by kernel_rfl)⟩
theorem aHX:C3 Go.Proofs.Tryz.prog 306 (.prim false (gS 1)):=⟨rfl,qK oM (zero:=[.int .i64 0]) (by decide+kernel)⟩
noncomputable def aS1:TT:= .node 173 (.node 99 (.node 57 (.node 38 (.node 25 (.node 13 (.node 11 (.leaf 9 (.code x9)) (.node 12 (.leaf 11 (.code x11)) (.leaf 12 (.code x12)))) (.node 23 (.node 21 (.leaf 13 (.code x13)) (.leaf 21 (.code x21))) (.node 24 (.leaf 23 (.code x23)) (.leaf 24 (.code x24))))) (.node 29 (.node 26 (.leaf 25 (.code x25)) (.node 27 (.leaf 26 (.code x26)) (.leaf 27 (.code x27)))) (.node 35 (.node 30 (.leaf 29 (.code x29)) (.leaf 30 (.code x30))) (.node 36 (.leaf 35 (.code x35)) (.leaf 36 (.code x36)))))) (.node 47 (.node 43 (.node 40 (.leaf 38 (.code x38)) (.node 42 (.leaf 40 (.code x40)) (.leaf 42 (.code x42)))) (.node 45 (.node 44 (.leaf 43 (.code x43)) (.leaf 44 (.code x44))) (.node 46 (.leaf 45 (.code x45)) (.leaf 46 (.code x46))))) (.node 52 (.node 48 (.leaf 47 (.code x47)) (.node 49 (.leaf 48 (.code x48)) (.leaf 49 (.code x49)))) (.node 54 (.node 53 (.leaf 52 (.code x52)) (.leaf 53 (.code x53))) (.node 56 (.leaf 54 (.code x54)) (.leaf 56 (.code x56))))))) (.node 78 (.node 71 (.node 67 (.node 58 (.leaf 57 (.code x57)) (.node 66 (.leaf 58 (.code x58)) (.leaf 66 (.code x66)))) (.node 69 (.node 68 (.leaf 67 (.code x67)) (.leaf 68 (.code x68))) (.node 70 (.leaf 69 (.code x69)) (.leaf 70 (.code x70))))) (.node 74 (.node 72 (.leaf 71 (.code x71)) (.node 73 (.leaf 72 (.code x72)) (.leaf 73 (.code x73)))) (.node 76 (.node 75 (.leaf 74 (.code x74)) (.leaf 75 (.code x75))) (.node 77 (.leaf 76 (.code x76)) (.leaf 77 (.code x77)))))) (.node 89 (.node 81 (.node 79 (.leaf 78 (.code x78)) (.node 80 (.leaf 79 (.code x79)) (.leaf 80 (.code x80)))) (.node 87 (.node 82 (.leaf 81 (.code x81)) (.leaf 82 (.code x82))) (.node 88 (.leaf 87 (.code x87)) (.leaf 88 (.code x88))))) (.node 94 (.node 91 (.leaf 89 (.code x89)) (.node 92 (.leaf 91 (.code x91)) (.leaf 92 (.code x92)))) (.node 97 (.node 95 (.leaf 94 (.code x94)) (.leaf 95 (.code x95))) (.node 98 (.leaf 97 (.code x97)) (.leaf 98 (.code x98)))))))) (.node 131 (.node 117 (.node 106 (.node 102 (.node 100 (.leaf 99 (.code x99)) (.node 101 (.leaf 100 (.code aNY)) (.leaf 101 (.code aNZ)))) (.node 104 (.node 103 (.leaf 102 (.shp (Q8 3))) (.leaf 103 (.prim false (gS 3)))) (.node 105 (.leaf 104 (.code aN0)) (.leaf 105 (.code aN1))))) (.node 110 (.node 108 (.leaf 106 (.code aN2)) (.node 109 (.leaf 108 (.code aN3)) (.leaf 109 (.code aN4)))) (.node 115 (.node 111 (.leaf 110 (.code aN5)) (.leaf 111 (.code aN6))) (.node 116 (.leaf 115 (.code aN7)) (.leaf 116 (.code aN8)))))) (.node 124 (.node 120 (.node 118 (.leaf 117 (.code aN9)) (.node 119 (.leaf 118 (.code aOa)) (.leaf 119 (.code aOb)))) (.node 122 (.node 121 (.leaf 120 (.code aOc)) (.leaf 121 (.code aOd))) (.node 123 (.leaf 122 (.code aOe)) (.leaf 123 (.code aOf))))) (.node 127 (.node 125 (.leaf 124 (.code aOg)) (.node 126 (.leaf 125 (.code aOh)) (.leaf 126 (.code aOi)))) (.node 129 (.node 128 (.leaf 127 (.code aDg)) (.leaf 128 (.code aOj))) (.node 130 (.leaf 129 (.code aOk)) (.leaf 130 (.code aOl))))))) (.node 153 (.node 146 (.node 134 (.node 132 (.leaf 131 (.code aOm)) (.node 133 (.leaf 132 (.code aOn)) (.leaf 133 (.code aOo)))) (.node 136 (.node 135 (.leaf 134 (.code aOp)) (.leaf 135 (.code aOq))) (.node 139 (.leaf 136 (.code aOr)) (.leaf 139 (.code aOs))))) (.node 149 (.node 147 (.leaf 146 (.code aOt)) (.node 148 (.leaf 147 (.code aOu)) (.leaf 148 (.code aOv)))) (.node 151 (.node 150 (.leaf 149 (.code aOw)) (.leaf 150 (.code aOx))) (.node 152 (.leaf 151 (.code aOy)) (.leaf 152 (.code aOz)))))) (.node 164 (.node 156 (.node 154 (.leaf 153 (.code aOA)) (.node 155 (.leaf 154 (.code aOB)) (.leaf 155 (.code aOC)))) (.node 160 (.node 157 (.leaf 156 (.code aOD)) (.leaf 157 (.code aOE))) (.node 163 (.leaf 160 (.code aOF)) (.leaf 163 (.code aOG))))) (.node 168 (.node 166 (.node 165 (.leaf 164 (.code aOH)) (.leaf 165 (.code aOI))) (.node 167 (.leaf 166 (.code aOJ)) (.leaf 167 (.code aOK)))) (.node 170 (.node 169 (.leaf 168 (.code aOL)) (.leaf 169 (.code aOM))) (.node 171 (.leaf 170 (.code aON)) (.leaf 171 (.code aOO))))))))) (.node 235 (.node 205 (.node 187 (.node 180 (.node 176 (.node 174 (.leaf 173 (.code aOP)) (.node 175 (.leaf 174 (.code aOQ)) (.leaf 175 (.code aOR)))) (.node 178 (.node 177 (.leaf 176 (.code aOS)) (.leaf 177 (.code aOT))) (.node 179 (.leaf 178 (.code aOU)) (.leaf 179 (.code aOV))))) (.node 183 (.node 181 (.leaf 180 (.code aOW)) (.node 182 (.leaf 181 (.code aOX)) (.leaf 182 (.prim false (gS 3))))) (.node 185 (.node 184 (.leaf 183 (.prim false (gS 3))) (.leaf 184 (.prim false (gS 5)))) (.node 186 (.leaf 185 (.prim false (gS 1))) (.leaf 186 (.prim false (gS 1))))))) (.node 194 (.node 190 (.node 188 (.leaf 187 (.code aOY)) (.node 189 (.leaf 188 (.code aOZ)) (.leaf 189 (.code aO0)))) (.node 192 (.node 191 (.leaf 190 (.code aO1)) (.leaf 191 (.code aO2))) (.node 193 (.leaf 192 (.code aO3)) (.leaf 193 (.code aO4))))) (.node 201 (.node 195 (.leaf 194 (.code aO5)) (.node 197 (.leaf 195 (.code aO6)) (.leaf 197 (.code aO7)))) (.node 203 (.node 202 (.leaf 201 (.code aO8)) (.leaf 202 (.code aO9))) (.node 204 (.leaf 203 (.code aPa)) (.leaf 204 (.code aPb))))))) (.node 221 (.node 214 (.node 209 (.node 206 (.leaf 205 (.code aPc)) (.node 207 (.leaf 206 (.code aPd)) (.leaf 207 (.code aPe)))) (.node 212 (.node 211 (.leaf 209 (.code aPf)) (.leaf 211 (.code aPg))) (.node 213 (.leaf 212 (.code aPh)) (.leaf 213 (.code aPi))))) (.node 217 (.node 215 (.leaf 214 (.code aPj)) (.node 216 (.leaf 215 (.code aPk)) (.leaf 216 (.code aPl)))) (.node 219 (.node 218 (.leaf 217 (.code aPm)) (.leaf 218 (.code aPn))) (.node 220 (.leaf 219 (.code aPo)) (.leaf 220 (.code aPp)))))) (.node 228 (.node 224 (.node 222 (.leaf 221 (.code aPq)) (.node 223 (.leaf 222 (.code aPr)) (.leaf 223 (.code aPs)))) (.node 226 (.node 225 (.leaf 224 (.code aPt)) (.leaf 225 (.code aPu))) (.node 227 (.leaf 226 (.code aPv)) (.leaf 227 (.code aPw))))) (.node 231 (.node 229 (.leaf 228 (.code aPx)) (.node 230 (.leaf 229 (.code aPy)) (.leaf 230 (.code aPz)))) (.node 233 (.node 232 (.leaf 231 (.code aPA)) (.leaf 232 (.code aPB))) (.node 234 (.leaf 233 (.code aPC)) (.leaf 234 (.code aPD)))))))) (.node 274 (.node 258 (.node 242 (.node 238 (.node 236 (.leaf 235 (.code aPE)) (.node 237 (.leaf 236 (.code aPF)) (.leaf 237 (.code aPG)))) (.node 240 (.node 239 (.leaf 238 (.code aPH)) (.leaf 239 (.code aPI))) (.node 241 (.leaf 240 (.code aPJ)) (.leaf 241 (.code aPK))))) (.node 254 (.node 243 (.leaf 242 (.prim false GK)) (.node 253 (.leaf 243 (.code aPL)) (.leaf 253 (.code aPM)))) (.node 256 (.node 255 (.leaf 254 (.code aPN)) (.leaf 255 (.code aPO))) (.node 257 (.leaf 256 (.code aPP)) (.leaf 257 (.code aPQ)))))) (.node 267 (.node 263 (.node 259 (.leaf 258 (.code aPR)) (.node 260 (.leaf 259 (.code aPS)) (.leaf 260 (.code aPT)))) (.node 265 (.node 264 (.leaf 263 (.code aPU)) (.leaf 264 (.code aPV))) (.node 266 (.leaf 265 (.code aPW)) (.leaf 266 (.code aPX))))) (.node 270 (.node 268 (.leaf 267 (.code aHc)) (.node 269 (.leaf 268 (.code aHe)) (.leaf 269 (.code aPY)))) (.node 272 (.node 271 (.leaf 270 (.code aPZ)) (.leaf 271 (.code aP0))) (.node 273 (.leaf 272 (.code aP1)) (.leaf 273 (.code aP2))))))) (.node 291 (.node 281 (.node 277 (.node 275 (.leaf 274 (.code aP3)) (.node 276 (.leaf 275 (.code aBB)) (.leaf 276 (.code aP4)))) (.node 279 (.node 278 (.leaf 277 (.code aP5)) (.leaf 278 (.code aP6))) (.node 280 (.leaf 279 (.code aP7)) (.leaf 280 (.code aP8))))) (.node 287 (.node 282 (.leaf 281 (.code aP9)) (.node 286 (.leaf 282 (.code aQa)) (.leaf 286 (.code aQb)))) (.node 289 (.node 288 (.leaf 287 (.code aQc)) (.leaf 288 (.code aQd))) (.node 290 (.leaf 289 (.code aQe)) (.leaf 290 (.code aQf)))))) (.node 298 (.node 294 (.node 292 (.leaf 291 (.code aQg)) (.node 293 (.leaf 292 (.code aQh)) (.leaf 293 (.code aQi)))) (.node 296 (.node 295 (.leaf 294 (.code aQj)) (.leaf 295 (.code aQk))) (.node 297 (.leaf 296 (.code aHE)) (.leaf 297 (.code aQl))))) (.node 302 (.node 300 (.node 299 (.leaf 298 (.code aDh)) (.leaf 299 (.code aQm))) (.node 301 (.leaf 300 (.code aQn)) (.leaf 301 (.code aQo)))) (.node 305 (.node 304 (.leaf 302 (.code aQp)) (.leaf 304 (.code aQq))) (.node 306 (.leaf 305 (.code aQr)) (.leaf 306 (.prim false (gS 1))))))))))
theorem Z9:aS1.All (C3 Go.Proofs.Tryz.prog):=⟨⟨⟨⟨⟨⟨⟨aS0,⟨aM4,aM5⟩⟩,⟨⟨aM6,aM7⟩,⟨aM8,aM9⟩⟩⟩,⟨⟨aNa,⟨aNb,aNc⟩⟩,⟨⟨aNd,aNe⟩,⟨aNf,aNg⟩⟩⟩⟩,⟨⟨⟨aNh,⟨aNi,aNj⟩⟩,⟨⟨aNk,aNl⟩,⟨aNm,aNn⟩⟩⟩,⟨⟨aNo,⟨aNp,aNq⟩⟩,⟨⟨aNr,aNs⟩,⟨aNt,aNu⟩⟩⟩⟩⟩,⟨⟨⟨⟨aNv,⟨aNw,aNx⟩⟩,⟨⟨aNy,aNz⟩,⟨aNA,aNB⟩⟩⟩,⟨⟨aNC,⟨aND,aNE⟩⟩,⟨⟨aNF,aNG⟩,⟨aNH,aNI⟩⟩⟩⟩,⟨⟨⟨aNJ,⟨aNK,aNL⟩⟩,⟨⟨aNM,aNN⟩,⟨aNO,aNP⟩⟩⟩,⟨⟨aNQ,⟨aNR,aNS⟩⟩,⟨⟨aNT,aNU⟩,⟨aNV,aNW⟩⟩⟩⟩⟩⟩,⟨⟨⟨⟨⟨aNX,⟨aFb,aFc⟩⟩,⟨⟨aHP,aHQ⟩,⟨aFd,aFe⟩⟩⟩,⟨⟨aFf,⟨aFg,aFh⟩⟩,⟨⟨aFi,aFj⟩,⟨aFk,aFl⟩⟩⟩⟩,⟨⟨⟨aFm,⟨aFn,aFo⟩⟩,⟨⟨aFp,aFq⟩,⟨aFr,aFs⟩⟩⟩,⟨⟨aFt,⟨aFu,aFv⟩⟩,⟨⟨aFw,aFx⟩,⟨aFy,aFz⟩⟩⟩⟩⟩,⟨⟨⟨⟨aFA,⟨aFB,aFC⟩⟩,⟨⟨aFD,aFE⟩,⟨aFF,aFG⟩⟩⟩,⟨⟨aFH,⟨aFI,aFJ⟩⟩,⟨⟨aFK,aFL⟩,⟨aFM,aFN⟩⟩⟩⟩,⟨⟨⟨aFO,⟨aFP,aFQ⟩⟩,⟨⟨aFR,aFS⟩,⟨aFT,aFU⟩⟩⟩,⟨⟨⟨aFV,aFW⟩,⟨aFX,aFY⟩⟩,⟨⟨aFZ,aF0⟩,⟨aF1,aF2⟩⟩⟩⟩⟩⟩⟩,⟨⟨⟨⟨⟨⟨aF3,⟨aF4,aF5⟩⟩,⟨⟨aF6,aF7⟩,⟨aF8,aF9⟩⟩⟩,⟨⟨aGa,⟨aGb,aHR⟩⟩,⟨⟨aHS,aHT⟩,⟨aHU,aHV⟩⟩⟩⟩,⟨⟨⟨aGc,⟨aGd,aGe⟩⟩,⟨⟨aGf,aGg⟩,⟨aGh,aGi⟩⟩⟩,⟨⟨aGj,⟨aGk,aGl⟩⟩,⟨⟨aGm,aGn⟩,⟨aGo,aGp⟩⟩⟩⟩⟩,⟨⟨⟨⟨aGq,⟨aGr,aGs⟩⟩,⟨⟨aGt,aGu⟩,⟨aGv,aGw⟩⟩⟩,⟨⟨aGx,⟨aGy,aGz⟩⟩,⟨⟨aGA,aGB⟩,⟨aGC,aGD⟩⟩⟩⟩,⟨⟨⟨aGE,⟨aGF,aGG⟩⟩,⟨⟨aGH,aGI⟩,⟨aGJ,aGK⟩⟩⟩,⟨⟨aGL,⟨aGM,aGN⟩⟩,⟨⟨aGO,aGP⟩,⟨aGQ,aGR⟩⟩⟩⟩⟩⟩,⟨⟨⟨⟨⟨aGS,⟨aGT,aGU⟩⟩,⟨⟨aGV,aGW⟩,⟨aGX,aGY⟩⟩⟩,⟨⟨aHW,⟨aGZ,aG0⟩⟩,⟨⟨aG1,aG2⟩,⟨aG3,aG4⟩⟩⟩⟩,⟨⟨⟨aG5,⟨aG6,aG7⟩⟩,⟨⟨aG8,aG9⟩,⟨aHa,aHb⟩⟩⟩,⟨⟨aHd,⟨aHf,aHg⟩⟩,⟨⟨aHh,aHi⟩,⟨aHj,aHk⟩⟩⟩⟩⟩,⟨⟨⟨⟨aHl,⟨aHm,aHn⟩⟩,⟨⟨aHo,aHp⟩,⟨aHq,aHr⟩⟩⟩,⟨⟨aHs,⟨aHt,aHu⟩⟩,⟨⟨aHv,aHw⟩,⟨aHx,aHy⟩⟩⟩⟩,⟨⟨⟨aHz,⟨aHA,aHB⟩⟩,⟨⟨aHC,aHD⟩,⟨aHF,aHG⟩⟩⟩,⟨⟨⟨aHH,aHI⟩,⟨aHJ,aHK⟩⟩,⟨⟨aHL,aHM⟩,⟨aHN,aHX⟩⟩⟩⟩⟩⟩⟩⟩
noncomputable def aS:qJ:=aS1.get
theorem aMD:aS 9=some (.code x9):=rfl
theorem aQt:aS 11=some (.code x11):=rfl
theorem aQu:aS 12=some (.code x12):=rfl
theorem aQv:aS 13=some (.code x13):=rfl
theorem aQw:aS 21=some (.code x21):=rfl
theorem aQx:aS 23=some (.code x23):=rfl
theorem aQy:aS 24=some (.code x24):=rfl
theorem aQz:aS 25=some (.code x25):=rfl
theorem aQA:aS 26=some (.code x26):=rfl
theorem aQB:aS 27=some (.code x27):=rfl
theorem aQC:aS 29=some (.code x29):=rfl
theorem aQD:aS 30=some (.code x30):=rfl
theorem aQE:aS 35=some (.code x35):=rfl
theorem aQF:aS 36=some (.code x36):=rfl
theorem aQG:aS 38=some (.code x38):=rfl
theorem aQH:aS 40=some (.code x40):=rfl
theorem aQI:aS 42=some (.code x42):=rfl
theorem aQJ:aS 43=some (.code x43):=rfl
theorem aQK:aS 44=some (.code x44):=rfl
theorem aQL:aS 45=some (.code x45):=rfl
theorem aQM:aS 46=some (.code x46):=rfl
theorem aQN:aS 47=some (.code x47):=rfl
theorem aQO:aS 48=some (.code x48):=rfl
theorem aQP:aS 49=some (.code x49):=rfl
theorem aQQ:aS 52=some (.code x52):=rfl
theorem aQR:aS 53=some (.code x53):=rfl
theorem aQS:aS 54=some (.code x54):=rfl
theorem aQT:aS 56=some (.code x56):=rfl
theorem aQU:aS 57=some (.code x57):=rfl
theorem aQV:aS 58=some (.code x58):=rfl
theorem aQW:aS 66=some (.code x66):=rfl
theorem aQX:aS 67=some (.code x67):=rfl
theorem aQY:aS 68=some (.code x68):=rfl
theorem aQZ:aS 69=some (.code x69):=rfl
theorem aQ0:aS 70=some (.code x70):=rfl
theorem aQ1:aS 71=some (.code x71):=rfl
theorem aQ2:aS 72=some (.code x72):=rfl
theorem aQ3:aS 73=some (.code x73):=rfl
theorem aQ4:aS 74=some (.code x74):=rfl
theorem aQ5:aS 75=some (.code x75):=rfl
theorem aQ6:aS 76=some (.code x76):=rfl
theorem aQ7:aS 77=some (.code x77):=rfl
theorem aQ8:aS 78=some (.code x78):=rfl
theorem aQ9:aS 79=some (.code x79):=rfl
theorem aRa:aS 80=some (.code x80):=rfl
theorem aRb:aS 81=some (.code x81):=rfl
theorem aRc:aS 82=some (.code x82):=rfl
theorem aRd:aS 87=some (.code x87):=rfl
theorem aRe:aS 88=some (.code x88):=rfl
theorem aDk:aS 89=some (.code x89):=rfl
theorem X4:aS 91=some (.code x91):=rfl
theorem aRf:aS 92=some (.code x92):=rfl
theorem aRg:aS 94=some (.code x94):=rfl
theorem aRh:aS 95=some (.code x95):=rfl
theorem aRi:aS 97=some (.code x97):=rfl
theorem aRj:aS 98=some (.code x98):=rfl
theorem aRk:aS 99=some (.code x99):=rfl
theorem aHY:aS 100=some (.code aNY):=rfl
theorem aHZ:aS 101=some (.code aNZ):=rfl
theorem aH0:aS 102=some (.shp (Q8 3)):=rfl
theorem aH1:aS 103=some (.prim false (gS 3)):=rfl
theorem aH2:aS 104=some (.code aN0):=rfl
theorem aH3:aS 105=some (.code aN1):=rfl
theorem aH4:aS 106=some (.code aN2):=rfl
theorem aH5:aS 108=some (.code aN3):=rfl
theorem aH6:aS 109=some (.code aN4):=rfl
theorem aH7:aS 110=some (.code aN5):=rfl
theorem aH8:aS 111=some (.code aN6):=rfl
theorem aH9:aS 115=some (.code aN7):=rfl
theorem aIa:aS 116=some (.code aN8):=rfl
theorem aIb:aS 117=some (.code aN9):=rfl
theorem aIc:aS 118=some (.code aOa):=rfl
theorem aId:aS 119=some (.code aOb):=rfl
theorem aIe:aS 120=some (.code aOc):=rfl
theorem aIf:aS 121=some (.code aOd):=rfl
theorem aIg:aS 122=some (.code aOe):=rfl
theorem aIh:aS 123=some (.code aOf):=rfl
theorem aIi:aS 124=some (.code aOg):=rfl
theorem aAa:aS 125=some (.code aOh):=rfl
theorem aIj:aS 126=some (.code aOi):=rfl
theorem aAb:aS 127=some (.code aDg):=rfl
theorem aIk:aS 128=some (.code aOj):=rfl
theorem aIl:aS 129=some (.code aOk):=rfl
theorem aIm:aS 130=some (.code aOl):=rfl
theorem aIn:aS 131=some (.code aOm):=rfl
theorem aIo:aS 132=some (.code aOn):=rfl
theorem aIp:aS 133=some (.code aOo):=rfl
theorem aIq:aS 134=some (.code aOp):=rfl
theorem aIr:aS 135=some (.code aOq):=rfl
theorem aIs:aS 136=some (.code aOr):=rfl
theorem aIt:aS 139=some (.code aOs):=rfl
theorem aIu:aS 146=some (.code aOt):=rfl
theorem aAc:aS 147=some (.code aOu):=rfl
theorem aAd:aS 148=some (.code aOv):=rfl
theorem aAe:aS 149=some (.code aOw):=rfl
theorem aIv:aS 150=some (.code aOx):=rfl
theorem aIw:aS 151=some (.code aOy):=rfl
theorem aIx:aS 152=some (.code aOz):=rfl
theorem aIy:aS 153=some (.code aOA):=rfl
theorem aIz:aS 154=some (.code aOB):=rfl
theorem aAf:aS 155=some (.code aOC):=rfl
theorem aIA:aS 156=some (.code aOD):=rfl
theorem aIB:aS 157=some (.code aOE):=rfl
theorem aIC:aS 160=some (.code aOF):=rfl
theorem aID:aS 163=some (.code aOG):=rfl
theorem aIE:aS 164=some (.code aOH):=rfl
theorem aIF:aS 165=some (.code aOI):=rfl
theorem aAg:aS 166=some (.code aOJ):=rfl
theorem aIG:aS 167=some (.code aOK):=rfl
theorem aIH:aS 168=some (.code aOL):=rfl
theorem aII:aS 169=some (.code aOM):=rfl
theorem aIJ:aS 170=some (.code aON):=rfl
theorem R5:aS 171=some (.code aOO):=rfl
theorem aIK:aS 173=some (.code aOP):=rfl
theorem aIL:aS 174=some (.code aOQ):=rfl
theorem aIM:aS 175=some (.code aOR):=rfl
theorem aIN:aS 176=some (.code aOS):=rfl
theorem aIO:aS 177=some (.code aOT):=rfl
theorem aIP:aS 178=some (.code aOU):=rfl
theorem aIQ:aS 179=some (.code aOV):=rfl
theorem aIR:aS 180=some (.code aOW):=rfl
theorem aIS:aS 181=some (.code aOX):=rfl
theorem aIT:aS 182=some (.prim false (gS 3)):=rfl
theorem aIU:aS 183=some (.prim false (gS 3)):=rfl
theorem aIV:aS 184=some (.prim false (gS 5)):=rfl
theorem aIW:aS 185=some (.prim false (gS 1)):=rfl
theorem aIX:aS 186=some (.prim false (gS 1)):=rfl
theorem aIY:aS 187=some (.code aOY):=rfl
theorem aIZ:aS 188=some (.code aOZ):=rfl
theorem aI0:aS 189=some (.code aO0):=rfl
theorem aI1:aS 190=some (.code aO1):=rfl
theorem aI2:aS 191=some (.code aO2):=rfl
theorem aI3:aS 192=some (.code aO3):=rfl
theorem aI4:aS 193=some (.code aO4):=rfl
theorem aI5:aS 194=some (.code aO5):=rfl
theorem aI6:aS 195=some (.code aO6):=rfl
theorem aI7:aS 197=some (.code aO7):=rfl
theorem aI8:aS 201=some (.code aO8):=rfl
theorem aAh:aS 202=some (.code aO9):=rfl
theorem aI9:aS 203=some (.code aPa):=rfl
theorem aJa:aS 204=some (.code aPb):=rfl
theorem aJb:aS 205=some (.code aPc):=rfl
theorem aJc:aS 206=some (.code aPd):=rfl
theorem aJd:aS 207=some (.code aPe):=rfl
theorem aJe:aS 209=some (.code aPf):=rfl
theorem aJf:aS 211=some (.code aPg):=rfl
theorem aJg:aS 212=some (.code aPh):=rfl
theorem aJh:aS 213=some (.code aPi):=rfl
theorem aJi:aS 214=some (.code aPj):=rfl
theorem aJj:aS 215=some (.code aPk):=rfl
theorem aJk:aS 216=some (.code aPl):=rfl
theorem aJl:aS 217=some (.code aPm):=rfl
theorem aJm:aS 218=some (.code aPn):=rfl
theorem aJn:aS 219=some (.code aPo):=rfl
theorem aJo:aS 220=some (.code aPp):=rfl
theorem aJp:aS 221=some (.code aPq):=rfl
theorem R6:aS 222=some (.code aPr):=rfl
theorem aJq:aS 223=some (.code aPs):=rfl
theorem aJr:aS 224=some (.code aPt):=rfl
theorem aJs:aS 225=some (.code aPu):=rfl
theorem aJt:aS 226=some (.code aPv):=rfl
theorem aJu:aS 227=some (.code aPw):=rfl
theorem aJv:aS 228=some (.code aPx):=rfl
theorem aJw:aS 229=some (.code aPy):=rfl
theorem aJx:aS 230=some (.code aPz):=rfl
theorem aJy:aS 231=some (.code aPA):=rfl
theorem aVi:aS 232=some (.code aPB):=rfl
theorem aVj:aS 233=some (.code aPC):=rfl
theorem aVk:aS 234=some (.code aPD):=rfl
theorem aVl:aS 235=some (.code aPE):=rfl
theorem aVm:aS 236=some (.code aPF):=rfl
theorem aVn:aS 237=some (.code aPG):=rfl
theorem aVo:aS 238=some (.code aPH):=rfl
theorem aJz:aS 239=some (.code aPI):=rfl
theorem aJA:aS 240=some (.code aPJ):=rfl
theorem aJB:aS 241=some (.code aPK):=rfl
theorem aJC:aS 242=some (.prim false GK):=rfl
theorem aJD:aS 243=some (.code aPL):=rfl
theorem aJE:aS 253=some (.code aPM):=rfl
theorem aJF:aS 254=some (.code aPN):=rfl
theorem aJG:aS 255=some (.code aPO):=rfl
theorem aJH:aS 256=some (.code aPP):=rfl
theorem aJI:aS 257=some (.code aPQ):=rfl
theorem aJJ:aS 258=some (.code aPR):=rfl
theorem aJK:aS 259=some (.code aPS):=rfl
theorem aJL:aS 260=some (.code aPT):=rfl
theorem aJM:aS 263=some (.code aPU):=rfl
theorem aJN:aS 264=some (.code aPV):=rfl
theorem aJO:aS 265=some (.code aPW):=rfl
theorem aJP:aS 266=some (.code aPX):=rfl
theorem aJQ:aS 267=some (.code aHc):=rfl
theorem aJR:aS 268=some (.code aHe):=rfl
theorem aJS:aS 269=some (.code aPY):=rfl
theorem aJT:aS 270=some (.code aPZ):=rfl
theorem aJU:aS 271=some (.code aP0):=rfl
theorem aJV:aS 272=some (.code aP1):=rfl
theorem aJW:aS 273=some (.code aP2):=rfl
theorem aJX:aS 274=some (.code aP3):=rfl
theorem R7:aS 275=some (.code aBB):=rfl
theorem aAi:aS 276=some (.code aP4):=rfl
theorem aVp:aS 277=some (.code aP5):=rfl
theorem aVq:aS 278=some (.code aP6):=rfl
theorem aVr:aS 279=some (.code aP7):=rfl
theorem aVs:aS 280=some (.code aP8):=rfl
theorem aVt:aS 281=some (.code aP9):=rfl
theorem aJY:aS 282=some (.code aQa):=rfl
theorem R8:aS 286=some (.code aQb):=rfl
theorem aJZ:aS 287=some (.code aQc):=rfl
theorem aAj:aS 288=some (.code aQd):=rfl
theorem R9:aS 289=some (.code aQe):=rfl
theorem aJ0:aS 290=some (.code aQf):=rfl
theorem aJ1:aS 291=some (.code aQg):=rfl
theorem aJ2:aS 292=some (.code aQh):=rfl
theorem aJ3:aS 293=some (.code aQi):=rfl
theorem aJ4:aS 294=some (.code aQj):=rfl
theorem aJ5:aS 295=some (.code aQk):=rfl
theorem aJ6:aS 296=some (.code aHE):=rfl
theorem aJ7:aS 297=some (.code aQl):=rfl
theorem aAk:aS 298=some (.code aDh):=rfl
theorem aJ8:aS 299=some (.code aQm):=rfl
theorem aAl:aS 300=some (.code aQn):=rfl
theorem aVu:aS 301=some (.code aQo):=rfl
theorem aJ9:aS 302=some (.code aQp):=rfl
theorem aKa:aS 304=some (.code aQq):=rfl
theorem aKb:aS 305=some (.code aQr):=rfl
theorem aKc:aS 306=some (.prim false (gS 1)):=rfl
end Go.Proofs.YthljmpcakagceaaGreat
