/- The table of the seat's functions. Printed by a program. -/
import Derived.Test.YtlnclppkepgdmaaGreatCQX1
import Derived.Test.YtlnclppkepgdmaaGreatCQX2
import Derived.Test.YtlnclppkepgdmaaGreatCQIO
import Derived.Test.YtlnclppkepgdmaaGreatChecked
set_option maxRecDepth 100000
namespace Go.Proofs.YtlnclppkepgdmaaGreat
open Go.Vm
theorem oH:Go.Proofs.Tryz.prog.follows .mixedOrders=true:=Go.Proofs.Tryz.checked.mixed
theorem aRt:D8 Go.Proofs.Tryz.prog 67 (.prim false (gK 1)):=⟨rfl,qG oH (zero:=[.int .i64 0]) (by decide+kernel)⟩
theorem aRu:D8 Go.Proofs.Tryz.prog 70 (.shp (UL aAy)):=aRs
theorem aJs:D8 Go.Proofs.Tryz.prog 124 (.prim false (gK 3)):=⟨rfl,qG oH (zero:=[.int .i64 0,.int .i64 0,.int .i64 0]) (by decide+kernel)⟩
theorem aJt:D8 Go.Proofs.Tryz.prog 181 (.prim false (gK 3)):=⟨rfl,qG oH (zero:=[.int .i64 0,.int .i64 0,.int .i64 0]) (by decide+kernel)⟩
theorem aJu:D8 Go.Proofs.Tryz.prog 182 (.prim false (gK 3)):=⟨rfl,qG oH (zero:=[.int .i64 0,.int .i64 0,.int .i64 0]) (by decide+kernel)⟩
theorem aJv:D8 Go.Proofs.Tryz.prog 183 (.prim false (gK 5)):=⟨rfl,qG oH (zero:=[.int .i64 0,.int .i64 0,.int .i64 0,.int .i64 0,.int .i64 0]) (by decide+kernel)⟩
theorem aJw:D8 Go.Proofs.Tryz.prog 184 (.prim false (gK 1)):=⟨rfl,qG oH (zero:=[.bool false]) (by decide+kernel)⟩
theorem aJx:D8 Go.Proofs.Tryz.prog 300 (.prim false HP):=⟨rfl,aAl Go.Proofs.Tryz.func300 (by kernel_rfl) (by kernel_rfl) (by kernel_rfl) (by kernel_rfl)⟩
theorem aJy:D8 Go.Proofs.Tryz.prog 315 (.prim false (gK 1)):=⟨rfl,qG oH (zero:=[.int .i64 0]) (by decide+kernel)⟩
noncomputable def aUc:TT:= .node 171 (.node 81 (.node 46 (.node 28 (.node 17 (.node 12 (.node 9 (.leaf 7 (.code x7)) (.node 10 (.leaf 9 (.code x9)) (.leaf 10 (.code x10)))) (.node 15 (.leaf 12 (.code x12)) (.node 16 (.leaf 15 (.code x15)) (.leaf 16 (.code x16))))) (.node 23 (.node 19 (.leaf 17 (.code x17)) (.node 21 (.leaf 19 (.code x19)) (.leaf 21 (.code x21)))) (.node 25 (.node 24 (.leaf 23 (.code x23)) (.leaf 24 (.code x24))) (.node 26 (.leaf 25 (.code x25)) (.leaf 26 (.code x26)))))) (.node 38 (.node 34 (.node 29 (.leaf 28 (.code x28)) (.node 31 (.leaf 29 (.code x29)) (.leaf 31 (.code x31)))) (.node 36 (.node 35 (.leaf 34 (.code x34)) (.leaf 35 (.code x35))) (.node 37 (.leaf 36 (.code x36)) (.leaf 37 (.code x37))))) (.node 41 (.node 39 (.leaf 38 (.code x38)) (.node 40 (.leaf 39 (.code x39)) (.leaf 40 (.code x40)))) (.node 44 (.node 42 (.leaf 41 (.code x41)) (.leaf 42 (.code x42))) (.node 45 (.leaf 44 (.code x44)) (.leaf 45 (.code x45))))))) (.node 67 (.node 58 (.node 51 (.node 49 (.leaf 46 (.code x46)) (.node 50 (.leaf 49 (.code x49)) (.leaf 50 (.code x50)))) (.node 53 (.node 52 (.leaf 51 (.code x51)) (.leaf 52 (.code x52))) (.node 54 (.leaf 53 (.code x53)) (.leaf 54 (.code x54))))) (.node 62 (.node 59 (.leaf 58 (.code x58)) (.node 60 (.leaf 59 (.code x59)) (.leaf 60 (.code x60)))) (.node 65 (.node 63 (.leaf 62 (.code x62)) (.leaf 63 (.code x63))) (.node 66 (.leaf 65 (.code x65)) (.leaf 66 (.code x66)))))) (.node 74 (.node 70 (.node 68 (.leaf 67 (.prim false (gK 1))) (.node 69 (.leaf 68 (.code x68)) (.leaf 69 (.code x69)))) (.node 72 (.node 71 (.leaf 70 (.shp (UL aAy))) (.leaf 71 (.code x71))) (.node 73 (.leaf 72 (.code x72)) (.leaf 73 (.code x73))))) (.node 77 (.node 75 (.leaf 74 (.code x74)) (.node 76 (.leaf 75 (.code x75)) (.leaf 76 (.code x76)))) (.node 79 (.node 78 (.leaf 77 (.code x77)) (.leaf 78 (.code x78))) (.node 80 (.leaf 79 (.code x79)) (.leaf 80 (.code x80)))))))) (.node 126 (.node 107 (.node 95 (.node 87 (.node 85 (.leaf 81 (.code x81)) (.node 86 (.leaf 85 (.code x85)) (.leaf 86 (.code x86)))) (.node 93 (.node 88 (.leaf 87 (.code x87)) (.leaf 88 (.code x88))) (.node 94 (.leaf 93 (.code x93)) (.leaf 94 (.code x94))))) (.node 98 (.node 96 (.leaf 95 (.code x95)) (.node 97 (.leaf 96 (.code x96)) (.leaf 97 (.code x97)))) (.node 105 (.node 102 (.leaf 98 (.code x98)) (.leaf 102 (.code aPi))) (.node 106 (.leaf 105 (.code aPj)) (.leaf 106 (.code aPk)))))) (.node 114 (.node 110 (.node 108 (.leaf 107 (.code aPl)) (.node 109 (.leaf 108 (.code aPm)) (.leaf 109 (.code aPn)))) (.node 112 (.node 111 (.leaf 110 (.code aPo)) (.leaf 111 (.code aPp))) (.node 113 (.leaf 112 (.code aPq)) (.leaf 113 (.code aPr))))) (.node 122 (.node 115 (.leaf 114 (.code aPs)) (.node 116 (.leaf 115 (.code aPt)) (.leaf 116 (.code aG8)))) (.node 124 (.node 123 (.leaf 122 (.code aPu)) (.leaf 123 (.code aPv))) (.node 125 (.leaf 124 (.prim false (gK 3))) (.leaf 125 (.code aPw))))))) (.node 142 (.node 134 (.node 130 (.node 128 (.leaf 126 (.code aPx)) (.node 129 (.leaf 128 (.code aPy)) (.leaf 129 (.code aPz)))) (.node 132 (.node 131 (.leaf 130 (.code aPA)) (.leaf 131 (.code aE4))) (.node 133 (.leaf 132 (.code aDr)) (.leaf 133 (.code aPB))))) (.node 138 (.node 136 (.leaf 134 (.code XY)) (.node 137 (.leaf 136 (.code aPC)) (.leaf 137 (.code aHm)))) (.node 140 (.node 139 (.leaf 138 (.code aPD)) (.leaf 139 (.code aPE))) (.node 141 (.leaf 140 (.code aPF)) (.leaf 141 (.code aPG)))))) (.node 157 (.node 145 (.node 143 (.leaf 142 (.code aPH)) (.node 144 (.leaf 143 (.code aPI)) (.leaf 144 (.code aPJ)))) (.node 147 (.node 146 (.leaf 145 (.code aPK)) (.leaf 146 (.code aPL))) (.node 152 (.leaf 147 (.code aPM)) (.leaf 152 (.code aPN))))) (.node 160 (.node 158 (.leaf 157 (.code aPO)) (.node 159 (.leaf 158 (.code aE5)) (.leaf 159 (.code aPP)))) (.node 168 (.node 163 (.leaf 160 (.code aPQ)) (.leaf 163 (.code aPR))) (.node 170 (.leaf 168 (.code aPS)) (.leaf 170 (.code aPT))))))))) (.node 244 (.node 201 (.node 184 (.node 177 (.node 174 (.node 172 (.leaf 171 (.code aPU)) (.node 173 (.leaf 172 (.code aPV)) (.leaf 173 (.code aPW)))) (.node 175 (.leaf 174 (.code aPX)) (.node 176 (.leaf 175 (.code aPY)) (.leaf 176 (.code aPZ))))) (.node 180 (.node 178 (.leaf 177 (.code aP0)) (.node 179 (.leaf 178 (.code aP1)) (.leaf 179 (.code aP2)))) (.node 182 (.node 181 (.leaf 180 (.code aP3)) (.leaf 181 (.prim false (gK 3)))) (.node 183 (.leaf 182 (.prim false (gK 3))) (.leaf 183 (.prim false (gK 5))))))) (.node 194 (.node 187 (.node 185 (.leaf 184 (.prim false (gK 1))) (.node 186 (.leaf 185 (.code aP4)) (.leaf 186 (.code aP5)))) (.node 192 (.node 191 (.leaf 187 (.code aP6)) (.leaf 191 (.code aP7))) (.node 193 (.leaf 192 (.code aP8)) (.leaf 193 (.code aP9))))) (.node 197 (.node 195 (.leaf 194 (.code aQa)) (.node 196 (.leaf 195 (.code aQb)) (.leaf 196 (.code aQc)))) (.node 199 (.node 198 (.leaf 197 (.code aQd)) (.leaf 198 (.code aQe))) (.node 200 (.leaf 199 (.code aE6)) (.leaf 200 (.code aAS))))))) (.node 229 (.node 217 (.node 213 (.node 211 (.leaf 201 (.code aDs)) (.node 212 (.leaf 211 (.code aQf)) (.leaf 212 (.code aQg)))) (.node 215 (.node 214 (.leaf 213 (.code aQh)) (.leaf 214 (.code aQi))) (.node 216 (.leaf 215 (.code aQj)) (.leaf 216 (.code aQk))))) (.node 224 (.node 218 (.leaf 217 (.code aQl)) (.node 219 (.leaf 218 (.code aQm)) (.leaf 219 (.code aQn)))) (.node 226 (.node 225 (.leaf 224 (.code aQo)) (.leaf 225 (.code aQp))) (.node 227 (.leaf 226 (.code aQq)) (.leaf 227 (.code aQr)))))) (.node 237 (.node 233 (.node 231 (.leaf 229 (.code aQs)) (.node 232 (.leaf 231 (.code aQt)) (.leaf 232 (.code aQu)))) (.node 235 (.node 234 (.leaf 233 (.code aQv)) (.leaf 234 (.code aQw))) (.node 236 (.leaf 235 (.code aQx)) (.leaf 236 (.code aQy))))) (.node 240 (.node 238 (.leaf 237 (.code aQz)) (.node 239 (.leaf 238 (.code aQA)) (.leaf 239 (.code aQB)))) (.node 242 (.node 241 (.leaf 240 (.code aQC)) (.leaf 241 (.code aQD))) (.node 243 (.leaf 242 (.code aQE)) (.leaf 243 (.code aQF)))))))) (.node 285 (.node 263 (.node 252 (.node 247 (.node 245 (.leaf 244 (.code aIv)) (.node 246 (.leaf 245 (.code aQG)) (.leaf 246 (.code aIy)))) (.node 250 (.node 249 (.leaf 247 (.code aQH)) (.leaf 249 (.code aQI))) (.node 251 (.leaf 250 (.code aQJ)) (.leaf 251 (.code aID))))) (.node 256 (.node 253 (.leaf 252 (.code aQK)) (.node 254 (.leaf 253 (.code aQL)) (.leaf 254 (.code aQM)))) (.node 260 (.node 257 (.leaf 256 (.code aQN)) (.leaf 257 (.code aQO))) (.node 261 (.leaf 260 (.code aQP)) (.leaf 261 (.code aQQ)))))) (.node 270 (.node 266 (.node 264 (.leaf 263 (.code aQR)) (.node 265 (.leaf 264 (.code aQS)) (.leaf 265 (.code aQT)))) (.node 268 (.node 267 (.leaf 266 (.code aQU)) (.leaf 267 (.code aQV))) (.node 269 (.leaf 268 (.code aQW)) (.leaf 269 (.code aQX))))) (.node 273 (.node 271 (.leaf 270 (.code aQY)) (.node 272 (.leaf 271 (.code aQZ)) (.leaf 272 (.code aQ0)))) (.node 283 (.node 282 (.leaf 273 (.code aQ1)) (.leaf 282 (.code aQ2))) (.node 284 (.leaf 283 (.code aQ3)) (.leaf 284 (.code aQ4))))))) (.node 300 (.node 292 (.node 288 (.node 286 (.leaf 285 (.code aQ5)) (.node 287 (.leaf 286 (.code aDt)) (.leaf 287 (.code aQ6)))) (.node 290 (.node 289 (.leaf 288 (.code aQ7)) (.leaf 289 (.code aQ8))) (.node 291 (.leaf 290 (.code aQ9)) (.leaf 291 (.code aRa))))) (.node 296 (.node 293 (.leaf 292 (.code aRb)) (.node 294 (.leaf 293 (.code aRc)) (.leaf 294 (.code aRd)))) (.node 298 (.node 297 (.leaf 296 (.code aRe)) (.leaf 297 (.code aRf))) (.node 299 (.leaf 298 (.code aRg)) (.leaf 299 (.code aRh)))))) (.node 310 (.node 306 (.node 304 (.leaf 300 (.prim false HP)) (.node 305 (.leaf 304 (.code aE7)) (.leaf 305 (.code aRi)))) (.node 308 (.node 307 (.leaf 306 (.code aRj)) (.leaf 307 (.code aRk))) (.node 309 (.leaf 308 (.code aRl)) (.leaf 309 (.code aJj))))) (.node 313 (.node 311 (.leaf 310 (.code aRm)) (.node 312 (.leaf 311 (.code aJm)) (.leaf 312 (.code aRn)))) (.node 316 (.node 315 (.leaf 313 (.code aRo)) (.leaf 315 (.prim false (gK 1)))) (.node 317 (.leaf 316 (.code aRp)) (.leaf 317 (.code aRq)))))))))
theorem aB3:aUc.All (D8 Go.Proofs.Tryz.prog):=⟨⟨⟨⟨⟨⟨⟨aUa,⟨aUb,aOi⟩⟩,⟨aOj,⟨aOk,aOl⟩⟩⟩,⟨⟨aOm,⟨aOn,aOo⟩⟩,⟨⟨aOp,aOq⟩,⟨aOr,aOs⟩⟩⟩⟩,⟨⟨⟨aOt,⟨aOu,aOv⟩⟩,⟨⟨aOw,aOx⟩,⟨aOy,aOz⟩⟩⟩,⟨⟨aOA,⟨aOB,aOC⟩⟩,⟨⟨aOD,aOE⟩,⟨aOF,aOG⟩⟩⟩⟩⟩,⟨⟨⟨⟨aOH,⟨aOI,aOJ⟩⟩,⟨⟨aOK,aOL⟩,⟨aOM,aON⟩⟩⟩,⟨⟨aOO,⟨aOP,aOQ⟩⟩,⟨⟨aOR,aOS⟩,⟨aOT,aOU⟩⟩⟩⟩,⟨⟨⟨aRt,⟨aOV,aOW⟩⟩,⟨⟨aRu,aOX⟩,⟨aOY,aOZ⟩⟩⟩,⟨⟨aO0,⟨aO1,aO2⟩⟩,⟨⟨aO3,aO4⟩,⟨aO5,aO6⟩⟩⟩⟩⟩⟩,⟨⟨⟨⟨⟨aO7,⟨aO8,aO9⟩⟩,⟨⟨aPa,aPb⟩,⟨aPc,aPd⟩⟩⟩,⟨⟨aPe,⟨aPf,aPg⟩⟩,⟨⟨aPh,aGW⟩,⟨aGX,aGY⟩⟩⟩⟩,⟨⟨⟨aGZ,⟨aG0,aG1⟩⟩,⟨⟨aG2,aG3⟩,⟨aG4,aG5⟩⟩⟩,⟨⟨aG6,⟨aG7,aG9⟩⟩,⟨⟨aHa,aHb⟩,⟨aJs,aHc⟩⟩⟩⟩⟩,⟨⟨⟨⟨aHd,⟨aHe,aHf⟩⟩,⟨⟨aHg,aHh⟩,⟨aHi,aHj⟩⟩⟩,⟨⟨aHk,⟨aHl,aHn⟩⟩,⟨⟨aHo,aHp⟩,⟨aHq,aHr⟩⟩⟩⟩,⟨⟨⟨aHs,⟨aHt,aHu⟩⟩,⟨⟨aHv,aHw⟩,⟨aHx,aHy⟩⟩⟩,⟨⟨aHz,⟨aHA,aHB⟩⟩,⟨⟨aHC,aHD⟩,⟨aHE,aHF⟩⟩⟩⟩⟩⟩⟩,⟨⟨⟨⟨⟨⟨aHG,⟨aHH,aHI⟩⟩,⟨aHJ,⟨aHK,aHL⟩⟩⟩,⟨⟨aHM,⟨aHN,aHO⟩⟩,⟨⟨aHP,aJt⟩,⟨aJu,aJv⟩⟩⟩⟩,⟨⟨⟨aJw,⟨aHQ,aHR⟩⟩,⟨⟨aHS,aHT⟩,⟨aHU,aHV⟩⟩⟩,⟨⟨aHW,⟨aHX,aHY⟩⟩,⟨⟨aHZ,aH0⟩,⟨aH1,aH2⟩⟩⟩⟩⟩,⟨⟨⟨⟨aH3,⟨aH4,aH5⟩⟩,⟨⟨aH6,aH7⟩,⟨aH8,aH9⟩⟩⟩,⟨⟨aIa,⟨aIb,aIc⟩⟩,⟨⟨aId,aIe⟩,⟨aIf,aIg⟩⟩⟩⟩,⟨⟨⟨aIh,⟨aIi,aIj⟩⟩,⟨⟨aIk,aIl⟩,⟨aIm,aIn⟩⟩⟩,⟨⟨aIo,⟨aIp,aIq⟩⟩,⟨⟨aIr,aIs⟩,⟨aIt,aIu⟩⟩⟩⟩⟩⟩,⟨⟨⟨⟨⟨aIw,⟨aIx,aIz⟩⟩,⟨⟨aIA,aIB⟩,⟨aIC,aIE⟩⟩⟩,⟨⟨aIF,⟨aIG,aIH⟩⟩,⟨⟨aII,aIJ⟩,⟨aIK,aIL⟩⟩⟩⟩,⟨⟨⟨aIM,⟨aIN,aIO⟩⟩,⟨⟨aIP,aIQ⟩,⟨aIR,aIS⟩⟩⟩,⟨⟨aIT,⟨aIU,aIV⟩⟩,⟨⟨aIW,aIX⟩,⟨aIY,aIZ⟩⟩⟩⟩⟩,⟨⟨⟨⟨aI0,⟨aI1,aI2⟩⟩,⟨⟨aI3,aI4⟩,⟨aI5,aI6⟩⟩⟩,⟨⟨aI7,⟨aI8,aI9⟩⟩,⟨⟨aJa,aJb⟩,⟨aJc,aJd⟩⟩⟩⟩,⟨⟨⟨aJx,⟨aJe,aJf⟩⟩,⟨⟨aJg,aJh⟩,⟨aJi,aJk⟩⟩⟩,⟨⟨aJl,⟨aJn,aJo⟩⟩,⟨⟨aJp,aJy⟩,⟨aJq,aJr⟩⟩⟩⟩⟩⟩⟩⟩
noncomputable def tab:qF:=aUc.get
theorem aNP:tab 7=some (.code x7):=rfl
theorem aUd:tab 9=some (.code x9):=rfl
theorem aRv:tab 10=some (.code x10):=rfl
theorem aRw:tab 12=some (.code x12):=rfl
theorem aRx:tab 15=some (.code x15):=rfl
theorem aRy:tab 16=some (.code x16):=rfl
theorem aRz:tab 17=some (.code x17):=rfl
theorem aRA:tab 19=some (.code x19):=rfl
theorem aRB:tab 21=some (.code x21):=rfl
theorem aRC:tab 23=some (.code x23):=rfl
theorem aRD:tab 24=some (.code x24):=rfl
theorem aRE:tab 25=some (.code x25):=rfl
theorem aRF:tab 26=some (.code x26):=rfl
theorem aRG:tab 28=some (.code x28):=rfl
theorem aRH:tab 29=some (.code x29):=rfl
theorem aRI:tab 31=some (.code x31):=rfl
theorem aRJ:tab 34=some (.code x34):=rfl
theorem aRK:tab 35=some (.code x35):=rfl
theorem aRL:tab 36=some (.code x36):=rfl
theorem aRM:tab 37=some (.code x37):=rfl
theorem aRN:tab 38=some (.code x38):=rfl
theorem aRO:tab 39=some (.code x39):=rfl
theorem aRP:tab 40=some (.code x40):=rfl
theorem aRQ:tab 41=some (.code x41):=rfl
theorem aRR:tab 42=some (.code x42):=rfl
theorem aRS:tab 44=some (.code x44):=rfl
theorem aRT:tab 45=some (.code x45):=rfl
theorem aRU:tab 46=some (.code x46):=rfl
theorem aRV:tab 49=some (.code x49):=rfl
theorem aRW:tab 50=some (.code x50):=rfl
theorem aRX:tab 51=some (.code x51):=rfl
theorem aRY:tab 52=some (.code x52):=rfl
theorem aRZ:tab 53=some (.code x53):=rfl
theorem aR0:tab 54=some (.code x54):=rfl
theorem aR1:tab 58=some (.code x58):=rfl
theorem aR2:tab 59=some (.code x59):=rfl
theorem aR3:tab 60=some (.code x60):=rfl
theorem aR4:tab 62=some (.code x62):=rfl
theorem aR5:tab 63=some (.code x63):=rfl
theorem aR6:tab 65=some (.code x65):=rfl
theorem aR7:tab 66=some (.code x66):=rfl
theorem aR8:tab 67=some (.prim false (gK 1)):=rfl
theorem aR9:tab 68=some (.code x68):=rfl
theorem aSa:tab 69=some (.code x69):=rfl
theorem aSb:tab 70=some (.shp (UL aAy)):=rfl
theorem aSc:tab 71=some (.code x71):=rfl
theorem aSd:tab 72=some (.code x72):=rfl
theorem aSe:tab 73=some (.code x73):=rfl
theorem aSf:tab 74=some (.code x74):=rfl
theorem aSg:tab 75=some (.code x75):=rfl
theorem aSh:tab 76=some (.code x76):=rfl
theorem aSi:tab 77=some (.code x77):=rfl
theorem aSj:tab 78=some (.code x78):=rfl
theorem aSk:tab 79=some (.code x79):=rfl
theorem aSl:tab 80=some (.code x80):=rfl
theorem aSm:tab 81=some (.code x81):=rfl
theorem aSn:tab 85=some (.code x85):=rfl
theorem aSo:tab 86=some (.code x86):=rfl
theorem aSp:tab 87=some (.code x87):=rfl
theorem aSq:tab 88=some (.code x88):=rfl
theorem aSr:tab 93=some (.code x93):=rfl
theorem aSs:tab 94=some (.code x94):=rfl
theorem aSt:tab 95=some (.code x95):=rfl
theorem aSu:tab 96=some (.code x96):=rfl
theorem aSv:tab 97=some (.code x97):=rfl
theorem aSw:tab 98=some (.code x98):=rfl
theorem aJz:tab 102=some (.code aPi):=rfl
theorem aJA:tab 105=some (.code aPj):=rfl
theorem aJB:tab 106=some (.code aPk):=rfl
theorem aJC:tab 107=some (.code aPl):=rfl
theorem aJD:tab 108=some (.code aPm):=rfl
theorem aJE:tab 109=some (.code aPn):=rfl
theorem aJF:tab 110=some (.code aPo):=rfl
theorem aJG:tab 111=some (.code aPp):=rfl
theorem aJH:tab 112=some (.code aPq):=rfl
theorem aJI:tab 113=some (.code aPr):=rfl
theorem aB4:tab 114=some (.code aPs):=rfl
theorem aJJ:tab 115=some (.code aPt):=rfl
theorem aB5:tab 116=some (.code aG8):=rfl
theorem aJK:tab 122=some (.code aPu):=rfl
theorem aJL:tab 123=some (.code aPv):=rfl
theorem aJM:tab 124=some (.prim false (gK 3)):=rfl
theorem aB6:tab 125=some (.code aPw):=rfl
theorem aJN:tab 126=some (.code aPx):=rfl
theorem aJO:tab 128=some (.code aPy):=rfl
theorem aJP:tab 129=some (.code aPz):=rfl
theorem aJQ:tab 130=some (.code aPA):=rfl
theorem aB7:tab 131=some (.code aE4):=rfl
theorem UX:tab 132=some (.code aDr):=rfl
theorem aJR:tab 133=some (.code aPB):=rfl
theorem J2:tab 134=some (.code XY):=rfl
theorem aJS:tab 136=some (.code aPC):=rfl
theorem aB8:tab 137=some (.code aHm):=rfl
theorem aJT:tab 138=some (.code aPD):=rfl
theorem UY:tab 139=some (.code aPE):=rfl
theorem aJU:tab 140=some (.code aPF):=rfl
theorem aJV:tab 141=some (.code aPG):=rfl
theorem aJW:tab 142=some (.code aPH):=rfl
theorem aJX:tab 143=some (.code aPI):=rfl
theorem aJY:tab 144=some (.code aPJ):=rfl
theorem aJZ:tab 145=some (.code aPK):=rfl
theorem aJ0:tab 146=some (.code aPL):=rfl
theorem aJ1:tab 147=some (.code aPM):=rfl
theorem aJ2:tab 152=some (.code aPN):=rfl
theorem aJ3:tab 157=some (.code aPO):=rfl
theorem aB9:tab 158=some (.code aE5):=rfl
theorem aJ4:tab 159=some (.code aPP):=rfl
theorem aJ5:tab 160=some (.code aPQ):=rfl
theorem aJ6:tab 163=some (.code aPR):=rfl
theorem aJ7:tab 168=some (.code aPS):=rfl
theorem aJ8:tab 170=some (.code aPT):=rfl
theorem aJ9:tab 171=some (.code aPU):=rfl
theorem aKa:tab 172=some (.code aPV):=rfl
theorem aKb:tab 173=some (.code aPW):=rfl
theorem aKc:tab 174=some (.code aPX):=rfl
theorem aKd:tab 175=some (.code aPY):=rfl
theorem aKe:tab 176=some (.code aPZ):=rfl
theorem aKf:tab 177=some (.code aP0):=rfl
theorem aKg:tab 178=some (.code aP1):=rfl
theorem aKh:tab 179=some (.code aP2):=rfl
theorem aCa:tab 180=some (.code aP3):=rfl
theorem aKi:tab 181=some (.prim false (gK 3)):=rfl
theorem aKj:tab 182=some (.prim false (gK 3)):=rfl
theorem aKk:tab 183=some (.prim false (gK 5)):=rfl
theorem aKl:tab 184=some (.prim false (gK 1)):=rfl
theorem aKm:tab 185=some (.code aP4):=rfl
theorem aKn:tab 186=some (.code aP5):=rfl
theorem aKo:tab 187=some (.code aP6):=rfl
theorem aKp:tab 191=some (.code aP7):=rfl
theorem aKq:tab 192=some (.code aP8):=rfl
theorem aKr:tab 193=some (.code aP9):=rfl
theorem aKs:tab 194=some (.code aQa):=rfl
theorem aKt:tab 195=some (.code aQb):=rfl
theorem aKu:tab 196=some (.code aQc):=rfl
theorem aKv:tab 197=some (.code aQd):=rfl
theorem aKw:tab 198=some (.code aQe):=rfl
theorem aCb:tab 199=some (.code aE6):=rfl
theorem NP:tab 200=some (.code aAS):=rfl
theorem UZ:tab 201=some (.code aDs):=rfl
theorem aKx:tab 211=some (.code aQf):=rfl
theorem aKy:tab 212=some (.code aQg):=rfl
theorem aKz:tab 213=some (.code aQh):=rfl
theorem U0:tab 214=some (.code aQi):=rfl
theorem aKA:tab 215=some (.code aQj):=rfl
theorem aKB:tab 216=some (.code aQk):=rfl
theorem aKC:tab 217=some (.code aQl):=rfl
theorem aKD:tab 218=some (.code aQm):=rfl
theorem aKE:tab 219=some (.code aQn):=rfl
theorem aKF:tab 224=some (.code aQo):=rfl
theorem aKG:tab 225=some (.code aQp):=rfl
theorem aKH:tab 226=some (.code aQq):=rfl
theorem aKI:tab 227=some (.code aQr):=rfl
theorem aKJ:tab 229=some (.code aQs):=rfl
theorem aKK:tab 231=some (.code aQt):=rfl
theorem aKL:tab 232=some (.code aQu):=rfl
theorem aKM:tab 233=some (.code aQv):=rfl
theorem aKN:tab 234=some (.code aQw):=rfl
theorem aKO:tab 235=some (.code aQx):=rfl
theorem aKP:tab 236=some (.code aQy):=rfl
theorem aKQ:tab 237=some (.code aQz):=rfl
theorem aKR:tab 238=some (.code aQA):=rfl
theorem aKS:tab 239=some (.code aQB):=rfl
theorem aKT:tab 240=some (.code aQC):=rfl
theorem aKU:tab 241=some (.code aQD):=rfl
theorem aKV:tab 242=some (.code aQE):=rfl
theorem aKW:tab 243=some (.code aQF):=rfl
theorem aCc:tab 244=some (.code aIv):=rfl
theorem aKX:tab 245=some (.code aQG):=rfl
theorem aKY:tab 246=some (.code aIy):=rfl
theorem aKZ:tab 247=some (.code aQH):=rfl
theorem aK0:tab 249=some (.code aQI):=rfl
theorem aK1:tab 250=some (.code aQJ):=rfl
theorem aK2:tab 251=some (.code aID):=rfl
theorem aK3:tab 252=some (.code aQK):=rfl
theorem U1:tab 253=some (.code aQL):=rfl
theorem aK4:tab 254=some (.code aQM):=rfl
theorem aWh:tab 256=some (.code aQN):=rfl
theorem aWi:tab 257=some (.code aQO):=rfl
theorem aK5:tab 260=some (.code aQP):=rfl
theorem aK6:tab 261=some (.code aQQ):=rfl
theorem aK7:tab 263=some (.code aQR):=rfl
theorem aWj:tab 264=some (.code aQS):=rfl
theorem aWk:tab 265=some (.code aQT):=rfl
theorem aWl:tab 266=some (.code aQU):=rfl
theorem aWm:tab 267=some (.code aQV):=rfl
theorem aWn:tab 268=some (.code aQW):=rfl
theorem aWo:tab 269=some (.code aQX):=rfl
theorem aWp:tab 270=some (.code aQY):=rfl
theorem aK8:tab 271=some (.code aQZ):=rfl
theorem aK9:tab 272=some (.code aQ0):=rfl
theorem aLa:tab 273=some (.code aQ1):=rfl
theorem aLb:tab 282=some (.code aQ2):=rfl
theorem aLc:tab 283=some (.code aQ3):=rfl
theorem aLd:tab 284=some (.code aQ4):=rfl
theorem aLe:tab 285=some (.code aQ5):=rfl
theorem U2:tab 286=some (.code aDt):=rfl
theorem aCd:tab 287=some (.code aQ6):=rfl
theorem aLf:tab 288=some (.code aQ7):=rfl
theorem aLg:tab 289=some (.code aQ8):=rfl
theorem aLh:tab 290=some (.code aQ9):=rfl
theorem aLi:tab 291=some (.code aRa):=rfl
theorem aLj:tab 292=some (.code aRb):=rfl
theorem aLk:tab 293=some (.code aRc):=rfl
theorem aLl:tab 294=some (.code aRd):=rfl
theorem aLm:tab 296=some (.code aRe):=rfl
theorem aWq:tab 297=some (.code aRf):=rfl
theorem aWr:tab 298=some (.code aRg):=rfl
theorem aWs:tab 299=some (.code aRh):=rfl
theorem aLn:tab 300=some (.prim false HP):=rfl
theorem aCe:tab 304=some (.code aE7):=rfl
theorem aLo:tab 305=some (.code aRi):=rfl
theorem aCf:tab 306=some (.code aRj):=rfl
theorem aLp:tab 307=some (.code aRk):=rfl
theorem aLq:tab 308=some (.code aRl):=rfl
theorem aCg:tab 309=some (.code aJj):=rfl
theorem aLr:tab 310=some (.code aRm):=rfl
theorem aCh:tab 311=some (.code aJm):=rfl
theorem aLs:tab 312=some (.code aRn):=rfl
theorem aWt:tab 313=some (.code aRo):=rfl
theorem aLt:tab 315=some (.prim false (gK 1)):=rfl
theorem aLu:tab 316=some (.code aRp):=rfl
theorem aLv:tab 317=some (.code aRq):=rfl
end Go.Proofs.YtlnclppkepgdmaaGreat
