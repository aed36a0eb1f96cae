/- The table of the seat's functions. Printed by a program. -/
import Derived.Test.YtbgoiokedpjgbaaGreatTQX1
import Derived.Test.YtbgoiokedpjgbaaGreatTQX2
import Derived.Test.YtbgoiokedpjgbaaGreatTQIO
import Derived.Test.YtbgoiokedpjgbaaGreatTQIC
import Derived.Test.YtbgoiokedpjgbaaGreatChecked
set_option maxRecDepth 100000
namespace Go.Proofs.YtbgoiokedpjgbaaGreat
open Go.Vm
theorem oA:Go.Proofs.Tryz.prog.follows .mixedOrders=true:=Go.Proofs.Tryz.checked.mixed
theorem aRy:BI Go.Proofs.Tryz.prog 32 (.prim false (gF 1)):=⟨rfl,qH oA (zero:=[.int .i64 0]) (by decide+kernel)⟩
theorem aRz:BI Go.Proofs.Tryz.prog 61 (.prim false (gF 3)):=⟨rfl,qH oA (zero:=[.int .i64 0,.int .i64 0,.int .i64 0]) (by decide+kernel)⟩
theorem aRA:BI Go.Proofs.Tryz.prog 77 (.shp (TQ Z8)):=aRw
theorem aI8:BI Go.Proofs.Tryz.prog 147 (.shp S4):=aRx
theorem aI9:BI Go.Proofs.Tryz.prog 209 (.prim false (gF 3)):=⟨rfl,qH oA (zero:=[.int .i64 0,.int .i64 0,.int .i64 0]) (by decide+kernel)⟩
theorem aJa:BI Go.Proofs.Tryz.prog 210 (.prim false (gF 3)):=⟨rfl,qH oA (zero:=[.int .i64 0,.int .i64 0,.int .i64 0]) (by decide+kernel)⟩
theorem aJb:BI Go.Proofs.Tryz.prog 211 (.prim false (gF 5)):=⟨rfl,qH oA (zero:=[.int .i64 0,.int .i64 0,.int .i64 0,.int .i64 0,.int .i64 0]) (by decide+kernel)⟩
theorem aJc:BI Go.Proofs.Tryz.prog 212 (.prim false (gF 1)):=⟨rfl,qH oA (zero:=[.bool false]) (by decide+kernel)⟩
theorem aJd:BI Go.Proofs.Tryz.prog 289 (.prim false HB):=⟨rfl,ZU Go.Proofs.Tryz.func289 (by kernel_rfl) (by kernel_rfl) (by kernel_rfl) (by kernel_rfl)⟩
theorem aJe:BI Go.Proofs.Tryz.prog 301 (.prim false (gF 1)):=⟨rfl,qH oA (zero:=[.int .i64 0]) (by decide+kernel)⟩
noncomputable def aUy:TT:= .node 147 (.node 81 (.node 46 (.node 30 (.node 14 (.node 10 (.node 8 (.leaf 3 (.code x3)) (.node 9 (.leaf 8 (.code x8)) (.leaf 9 (.code x9)))) (.node 12 (.node 11 (.leaf 10 (.code x10)) (.leaf 11 (.code x11))) (.node 13 (.leaf 12 (.code x12)) (.leaf 13 (.code x13))))) (.node 24 (.node 18 (.leaf 14 (.code x14)) (.node 19 (.leaf 18 (.code x18)) (.leaf 19 (.code x19)))) (.node 28 (.node 27 (.leaf 24 (.code x24)) (.leaf 27 (.code x27))) (.node 29 (.leaf 28 (.code x28)) (.leaf 29 (.code x29)))))) (.node 37 (.node 33 (.node 31 (.leaf 30 (.code x30)) (.node 32 (.leaf 31 (.code x31)) (.leaf 32 (.prim false (gF 1))))) (.node 35 (.node 34 (.leaf 33 (.code x33)) (.leaf 34 (.code x34))) (.node 36 (.leaf 35 (.code x35)) (.leaf 36 (.code x36))))) (.node 40 (.node 38 (.leaf 37 (.code x37)) (.node 39 (.leaf 38 (.code x38)) (.leaf 39 (.code x39)))) (.node 42 (.node 41 (.leaf 40 (.code x40)) (.leaf 41 (.code x41))) (.node 44 (.leaf 42 (.code x42)) (.leaf 44 (.code x44))))))) (.node 66 (.node 53 (.node 49 (.node 47 (.leaf 46 (.code x46)) (.node 48 (.leaf 47 (.code x47)) (.leaf 48 (.code x48)))) (.node 51 (.node 50 (.leaf 49 (.code x49)) (.leaf 50 (.code x50))) (.node 52 (.leaf 51 (.code x51)) (.leaf 52 (.code x52))))) (.node 59 (.node 57 (.leaf 53 (.code x53)) (.node 58 (.leaf 57 (.code x57)) (.leaf 58 (.code x58)))) (.node 62 (.node 61 (.leaf 59 (.code x59)) (.leaf 61 (.prim false (gF 3)))) (.node 63 (.leaf 62 (.code x62)) (.leaf 63 (.code x63)))))) (.node 74 (.node 70 (.node 67 (.leaf 66 (.code x66)) (.node 69 (.leaf 67 (.code x67)) (.leaf 69 (.code x69)))) (.node 72 (.node 71 (.leaf 70 (.code x70)) (.leaf 71 (.code x71))) (.node 73 (.leaf 72 (.code x72)) (.leaf 73 (.code x73))))) (.node 77 (.node 75 (.leaf 74 (.code x74)) (.node 76 (.leaf 75 (.code x75)) (.leaf 76 (.code x76)))) (.node 79 (.node 78 (.leaf 77 (.shp (TQ Z8))) (.leaf 78 (.code x78))) (.node 80 (.leaf 79 (.code x79)) (.leaf 80 (.code x80)))))))) (.node 111 (.node 96 (.node 88 (.node 84 (.node 82 (.leaf 81 (.code x81)) (.node 83 (.leaf 82 (.code x82)) (.leaf 83 (.code x83)))) (.node 86 (.node 85 (.leaf 84 (.code x84)) (.leaf 85 (.code x85))) (.node 87 (.leaf 86 (.code x86)) (.leaf 87 (.code x87))))) (.node 91 (.node 89 (.leaf 88 (.code x88)) (.node 90 (.leaf 89 (.code x89)) (.leaf 90 (.code x90)))) (.node 93 (.node 92 (.leaf 91 (.code x91)) (.leaf 92 (.code x92))) (.node 94 (.leaf 93 (.code x93)) (.leaf 94 (.code x94)))))) (.node 103 (.node 99 (.node 97 (.leaf 96 (.code x96)) (.node 98 (.leaf 97 (.code x97)) (.leaf 98 (.code x98)))) (.node 101 (.node 100 (.leaf 99 (.code x99)) (.leaf 100 (.code aPp))) (.node 102 (.leaf 101 (.code aPq)) (.leaf 102 (.code aPr))))) (.node 106 (.node 104 (.leaf 103 (.code aPs)) (.node 105 (.leaf 104 (.code aPt)) (.leaf 105 (.code aPu)))) (.node 109 (.node 108 (.leaf 106 (.code aPv)) (.leaf 108 (.code aPw))) (.node 110 (.leaf 109 (.code aPx)) (.leaf 110 (.code aPy))))))) (.node 131 (.node 124 (.node 118 (.node 116 (.leaf 111 (.code aPz)) (.node 117 (.leaf 116 (.code aPA)) (.leaf 117 (.code aPB)))) (.node 120 (.node 119 (.leaf 118 (.code aPC)) (.leaf 119 (.code aPD))) (.node 121 (.leaf 120 (.code aPE)) (.leaf 121 (.code aPF))))) (.node 127 (.node 125 (.leaf 124 (.code aPG)) (.node 126 (.leaf 125 (.code aPH)) (.leaf 126 (.code aPI)))) (.node 129 (.node 128 (.leaf 127 (.code aPJ)) (.leaf 128 (.code aPK))) (.node 130 (.leaf 129 (.code aEM)) (.leaf 130 (.code aC7)))))) (.node 140 (.node 136 (.node 132 (.leaf 131 (.code aPL)) (.node 135 (.leaf 132 (.code aPM)) (.leaf 135 (.code aG7)))) (.node 138 (.node 137 (.leaf 136 (.code aG9)) (.leaf 137 (.code aPN))) (.node 139 (.leaf 138 (.code aPO)) (.leaf 139 (.code aPP))))) (.node 143 (.node 141 (.leaf 140 (.code aPQ)) (.node 142 (.leaf 141 (.code aPR)) (.leaf 142 (.code aPS)))) (.node 145 (.node 144 (.leaf 143 (.code aPT)) (.leaf 144 (.code aPU))) (.node 146 (.leaf 145 (.code aPV)) (.leaf 146 (.code aPW))))))))) (.node 223 (.node 182 (.node 163 (.node 154 (.node 150 (.node 148 (.leaf 147 (.shp S4)) (.node 149 (.leaf 148 (.code aPX)) (.leaf 149 (.code aPY)))) (.node 152 (.node 151 (.leaf 150 (.code aPZ)) (.leaf 151 (.code aP0))) (.node 153 (.leaf 152 (.code aP1)) (.leaf 153 (.code aP2))))) (.node 159 (.node 155 (.leaf 154 (.code aP3)) (.node 158 (.leaf 155 (.code aP4)) (.leaf 158 (.code aP5)))) (.node 161 (.node 160 (.leaf 159 (.code aP6)) (.leaf 160 (.code aP7))) (.node 162 (.leaf 161 (.code aP8)) (.leaf 162 (.code aP9)))))) (.node 174 (.node 166 (.node 164 (.leaf 163 (.code aQa)) (.node 165 (.leaf 164 (.code aQb)) (.leaf 165 (.code aQc)))) (.node 172 (.node 168 (.leaf 166 (.code aQd)) (.leaf 168 (.code aQe))) (.node 173 (.leaf 172 (.code aQf)) (.leaf 173 (.code aQg))))) (.node 177 (.node 175 (.leaf 174 (.code aQh)) (.node 176 (.leaf 175 (.code aQi)) (.leaf 176 (.code aQj)))) (.node 180 (.node 179 (.leaf 177 (.code aQk)) (.leaf 179 (.code aQl))) (.node 181 (.leaf 180 (.code aQm)) (.leaf 181 (.code aQn))))))) (.node 207 (.node 200 (.node 185 (.node 183 (.leaf 182 (.code aQo)) (.node 184 (.leaf 183 (.code aQp)) (.leaf 184 (.code aQq)))) (.node 187 (.node 186 (.leaf 185 (.code aQr)) (.leaf 186 (.code aEN))) (.node 188 (.leaf 187 (.code aAt)) (.leaf 188 (.code aC8))))) (.node 203 (.node 201 (.leaf 200 (.code aQs)) (.node 202 (.leaf 201 (.code aQt)) (.leaf 202 (.code aHV)))) (.node 205 (.node 204 (.leaf 203 (.code aQu)) (.leaf 204 (.code aQv))) (.node 206 (.leaf 205 (.code aQw)) (.leaf 206 (.code aQx)))))) (.node 215 (.node 210 (.node 208 (.leaf 207 (.code aH1)) (.node 209 (.leaf 208 (.code aQy)) (.leaf 209 (.prim false (gF 3))))) (.node 212 (.node 211 (.leaf 210 (.prim false (gF 3))) (.leaf 211 (.prim false (gF 5)))) (.node 214 (.leaf 212 (.prim false (gF 1))) (.leaf 214 (.code aQz))))) (.node 218 (.node 216 (.leaf 215 (.code aQA)) (.node 217 (.leaf 216 (.code aQB)) (.leaf 217 (.code aQC)))) (.node 220 (.node 219 (.leaf 218 (.code aQD)) (.leaf 219 (.code aQE))) (.node 221 (.leaf 220 (.code aQF)) (.leaf 221 (.code aQG)))))))) (.node 268 (.node 240 (.node 233 (.node 228 (.node 224 (.leaf 223 (.code aQH)) (.node 227 (.leaf 224 (.code aQI)) (.leaf 227 (.code aQJ)))) (.node 230 (.node 229 (.leaf 228 (.code aQK)) (.leaf 229 (.code aQL))) (.node 232 (.leaf 230 (.code aQM)) (.leaf 232 (.code aQN))))) (.node 236 (.node 234 (.leaf 233 (.code aQO)) (.node 235 (.leaf 234 (.code aQP)) (.leaf 235 (.code aQQ)))) (.node 238 (.node 237 (.leaf 236 (.code aIm)) (.leaf 237 (.code aQR))) (.node 239 (.leaf 238 (.code aQS)) (.leaf 239 (.code aQT)))))) (.node 252 (.node 248 (.node 246 (.leaf 240 (.code aQU)) (.node 247 (.leaf 246 (.code aQV)) (.leaf 247 (.code aQW)))) (.node 250 (.node 249 (.leaf 248 (.code aQX)) (.leaf 249 (.code aQY))) (.node 251 (.leaf 250 (.code aQZ)) (.leaf 251 (.code aQ0))))) (.node 255 (.node 253 (.leaf 252 (.code aQ1)) (.node 254 (.leaf 253 (.code aQ2)) (.leaf 254 (.code aQ3)))) (.node 258 (.node 257 (.leaf 255 (.code aQ4)) (.leaf 257 (.code aQ5))) (.node 267 (.leaf 258 (.code aQ6)) (.leaf 267 (.code aQ7))))))) (.node 283 (.node 275 (.node 271 (.node 269 (.leaf 268 (.code aQ8)) (.node 270 (.leaf 269 (.code aQ9)) (.leaf 270 (.code aRa)))) (.node 273 (.node 272 (.leaf 271 (.code aRb)) (.leaf 272 (.code aRc))) (.node 274 (.leaf 273 (.code aRd)) (.leaf 274 (.code aRe))))) (.node 279 (.node 276 (.leaf 275 (.code aRf)) (.node 278 (.leaf 276 (.code aRg)) (.leaf 278 (.code aC9)))) (.node 281 (.node 280 (.leaf 279 (.code aRh)) (.leaf 280 (.code aRi))) (.node 282 (.leaf 281 (.code aIR)) (.leaf 282 (.code aRj)))))) (.node 293 (.node 289 (.node 284 (.leaf 283 (.code aIU)) (.node 285 (.leaf 284 (.code aRk)) (.leaf 285 (.code aRl)))) (.node 291 (.node 290 (.leaf 289 (.prim false HB)) (.leaf 290 (.code aRm))) (.node 292 (.leaf 291 (.code aRn)) (.leaf 292 (.code aRo))))) (.node 297 (.node 295 (.node 294 (.leaf 293 (.code aRp)) (.leaf 294 (.code aRq))) (.node 296 (.leaf 295 (.code aRr)) (.leaf 296 (.code aRs)))) (.node 300 (.node 298 (.leaf 297 (.code aRt)) (.leaf 298 (.code aEO))) (.node 301 (.leaf 300 (.code aRu)) (.leaf 301 (.prim false (gF 1))))))))))
theorem aBB:aUy.All (BI Go.Proofs.Tryz.prog):=⟨⟨⟨⟨⟨⟨⟨aUv,⟨aUw,aUx⟩⟩,⟨⟨aOj,aOk⟩,⟨aOl,aOm⟩⟩⟩,⟨⟨aOn,⟨aOo,aOp⟩⟩,⟨⟨aOq,aOr⟩,⟨aOs,aOt⟩⟩⟩⟩,⟨⟨⟨aOu,⟨aOv,aRy⟩⟩,⟨⟨aOw,aOx⟩,⟨aOy,aOz⟩⟩⟩,⟨⟨aOA,⟨aOB,aOC⟩⟩,⟨⟨aOD,aOE⟩,⟨aOF,aOG⟩⟩⟩⟩⟩,⟨⟨⟨⟨aOH,⟨aOI,aOJ⟩⟩,⟨⟨aOK,aOL⟩,⟨aOM,aON⟩⟩⟩,⟨⟨aOO,⟨aOP,aOQ⟩⟩,⟨⟨aOR,aRz⟩,⟨aOS,aOT⟩⟩⟩⟩,⟨⟨⟨aOU,⟨aOV,aOW⟩⟩,⟨⟨aOX,aOY⟩,⟨aOZ,aO0⟩⟩⟩,⟨⟨aO1,⟨aO2,aO3⟩⟩,⟨⟨aRA,aO4⟩,⟨aO5,aO6⟩⟩⟩⟩⟩⟩,⟨⟨⟨⟨⟨aO7,⟨aO8,aO9⟩⟩,⟨⟨aPa,aPb⟩,⟨aPc,aPd⟩⟩⟩,⟨⟨aPe,⟨aPf,aPg⟩⟩,⟨⟨aPh,aPi⟩,⟨aPj,aPk⟩⟩⟩⟩,⟨⟨⟨aPl,⟨aPm,aPn⟩⟩,⟨⟨aPo,aGH⟩,⟨aGI,aGJ⟩⟩⟩,⟨⟨aGK,⟨aGL,aGM⟩⟩,⟨⟨aGN,aGO⟩,⟨aGP,aGQ⟩⟩⟩⟩⟩,⟨⟨⟨⟨aGR,⟨aGS,aGT⟩⟩,⟨⟨aGU,aGV⟩,⟨aGW,aGX⟩⟩⟩,⟨⟨aGY,⟨aGZ,aG0⟩⟩,⟨⟨aG1,aG2⟩,⟨aG3,aG4⟩⟩⟩⟩,⟨⟨⟨aG5,⟨aG6,aG8⟩⟩,⟨⟨aHa,aHb⟩,⟨aHc,aHd⟩⟩⟩,⟨⟨aHe,⟨aHf,aHg⟩⟩,⟨⟨aHh,aHi⟩,⟨aHj,aHk⟩⟩⟩⟩⟩⟩⟩,⟨⟨⟨⟨⟨⟨aI8,⟨aHl,aHm⟩⟩,⟨⟨aHn,aHo⟩,⟨aHp,aHq⟩⟩⟩,⟨⟨aHr,⟨aHs,aHt⟩⟩,⟨⟨aHu,aHv⟩,⟨aHw,aHx⟩⟩⟩⟩,⟨⟨⟨aHy,⟨aHz,aHA⟩⟩,⟨⟨aHB,aHC⟩,⟨aHD,aHE⟩⟩⟩,⟨⟨aHF,⟨aHG,aHH⟩⟩,⟨⟨aHI,aHJ⟩,⟨aHK,aHL⟩⟩⟩⟩⟩,⟨⟨⟨⟨aHM,⟨aHN,aHO⟩⟩,⟨⟨aHP,aHQ⟩,⟨aHR,aHS⟩⟩⟩,⟨⟨aHT,⟨aHU,aHW⟩⟩,⟨⟨aHX,aHY⟩,⟨aHZ,aH0⟩⟩⟩⟩,⟨⟨⟨aH2,⟨aH3,aI9⟩⟩,⟨⟨aJa,aJb⟩,⟨aJc,aH4⟩⟩⟩,⟨⟨aH5,⟨aH6,aH7⟩⟩,⟨⟨aH8,aH9⟩,⟨aIa,aIb⟩⟩⟩⟩⟩⟩,⟨⟨⟨⟨⟨aIc,⟨aId,aIe⟩⟩,⟨⟨aIf,aIg⟩,⟨aIh,aIi⟩⟩⟩,⟨⟨aIj,⟨aIk,aIl⟩⟩,⟨⟨aIn,aIo⟩,⟨aIp,aIq⟩⟩⟩⟩,⟨⟨⟨aIr,⟨aIs,aIt⟩⟩,⟨⟨aIu,aIv⟩,⟨aIw,aIx⟩⟩⟩,⟨⟨aIy,⟨aIz,aIA⟩⟩,⟨⟨aIB,aIC⟩,⟨aID,aIE⟩⟩⟩⟩⟩,⟨⟨⟨⟨aIF,⟨aIG,aIH⟩⟩,⟨⟨aII,aIJ⟩,⟨aIK,aIL⟩⟩⟩,⟨⟨aIM,⟨aIN,aIO⟩⟩,⟨⟨aIP,aIQ⟩,⟨aIS,aIT⟩⟩⟩⟩,⟨⟨⟨aIV,⟨aIW,aIX⟩⟩,⟨⟨aJd,aIY⟩,⟨aIZ,aI0⟩⟩⟩,⟨⟨⟨aI1,aI2⟩,⟨aI3,aI4⟩⟩,⟨⟨aI5,aI6⟩,⟨aI7,aJe⟩⟩⟩⟩⟩⟩⟩⟩
noncomputable def tab:qG:=aUy.get
theorem aNO:tab 3=some (.code x3):=rfl
theorem aUz:tab 8=some (.code x8):=rfl
theorem aNP:tab 9=some (.code x9):=rfl
theorem aRB:tab 10=some (.code x10):=rfl
theorem aRC:tab 11=some (.code x11):=rfl
theorem aRD:tab 12=some (.code x12):=rfl
theorem aRE:tab 13=some (.code x13):=rfl
theorem aRF:tab 14=some (.code x14):=rfl
theorem aRG:tab 18=some (.code x18):=rfl
theorem aRH:tab 19=some (.code x19):=rfl
theorem aRI:tab 24=some (.code x24):=rfl
theorem aRJ:tab 27=some (.code x27):=rfl
theorem aRK:tab 28=some (.code x28):=rfl
theorem aES:tab 29=some (.code x29):=rfl
theorem aET:tab 30=some (.code x30):=rfl
theorem aRL:tab 31=some (.code x31):=rfl
theorem aRM:tab 32=some (.prim false (gF 1)):=rfl
theorem aRN:tab 33=some (.code x33):=rfl
theorem aEU:tab 34=some (.code x34):=rfl
theorem aRO:tab 35=some (.code x35):=rfl
theorem aEV:tab 36=some (.code x36):=rfl
theorem aRP:tab 37=some (.code x37):=rfl
theorem aRQ:tab 38=some (.code x38):=rfl
theorem aRR:tab 39=some (.code x39):=rfl
theorem aEW:tab 40=some (.code x40):=rfl
theorem aRS:tab 41=some (.code x41):=rfl
theorem aRT:tab 42=some (.code x42):=rfl
theorem aRU:tab 44=some (.code x44):=rfl
theorem aRV:tab 46=some (.code x46):=rfl
theorem aRW:tab 47=some (.code x47):=rfl
theorem aRX:tab 48=some (.code x48):=rfl
theorem aRY:tab 49=some (.code x49):=rfl
theorem aRZ:tab 50=some (.code x50):=rfl
theorem aR0:tab 51=some (.code x51):=rfl
theorem aR1:tab 52=some (.code x52):=rfl
theorem aR2:tab 53=some (.code x53):=rfl
theorem aR3:tab 57=some (.code x57):=rfl
theorem aR4:tab 58=some (.code x58):=rfl
theorem aR5:tab 59=some (.code x59):=rfl
theorem aR6:tab 61=some (.prim false (gF 3)):=rfl
theorem aR7:tab 62=some (.code x62):=rfl
theorem aR8:tab 63=some (.code x63):=rfl
theorem aR9:tab 66=some (.code x66):=rfl
theorem aSa:tab 67=some (.code x67):=rfl
theorem aSb:tab 69=some (.code x69):=rfl
theorem aSc:tab 70=some (.code x70):=rfl
theorem aEX:tab 71=some (.code x71):=rfl
theorem aEY:tab 72=some (.code x72):=rfl
theorem aEZ:tab 73=some (.code x73):=rfl
theorem aSd:tab 74=some (.code x74):=rfl
theorem aSe:tab 75=some (.code x75):=rfl
theorem aSf:tab 76=some (.code x76):=rfl
theorem aSg:tab 77=some (.shp (TQ Z8)):=rfl
theorem aSh:tab 78=some (.code x78):=rfl
theorem aSi:tab 79=some (.code x79):=rfl
theorem aSj:tab 80=some (.code x80):=rfl
theorem aSk:tab 81=some (.code x81):=rfl
theorem aSl:tab 82=some (.code x82):=rfl
theorem KY:tab 83=some (.code x83):=rfl
theorem aSm:tab 84=some (.code x84):=rfl
theorem aSn:tab 85=some (.code x85):=rfl
theorem aSo:tab 86=some (.code x86):=rfl
theorem aSp:tab 87=some (.code x87):=rfl
theorem aSq:tab 88=some (.code x88):=rfl
theorem aSr:tab 89=some (.code x89):=rfl
theorem aSs:tab 90=some (.code x90):=rfl
theorem aSt:tab 91=some (.code x91):=rfl
theorem aSu:tab 92=some (.code x92):=rfl
theorem aSv:tab 93=some (.code x93):=rfl
theorem aSw:tab 94=some (.code x94):=rfl
theorem aSx:tab 96=some (.code x96):=rfl
theorem aSy:tab 97=some (.code x97):=rfl
theorem aSz:tab 98=some (.code x98):=rfl
theorem aSA:tab 99=some (.code x99):=rfl
theorem aJf:tab 100=some (.code aPp):=rfl
theorem aJg:tab 101=some (.code aPq):=rfl
theorem aJh:tab 102=some (.code aPr):=rfl
theorem aJi:tab 103=some (.code aPs):=rfl
theorem aJj:tab 104=some (.code aPt):=rfl
theorem aJk:tab 105=some (.code aPu):=rfl
theorem aJl:tab 106=some (.code aPv):=rfl
theorem aJm:tab 108=some (.code aPw):=rfl
theorem T4:tab 109=some (.code aPx):=rfl
theorem aJn:tab 110=some (.code aPy):=rfl
theorem aJo:tab 111=some (.code aPz):=rfl
theorem aJp:tab 116=some (.code aPA):=rfl
theorem aJq:tab 117=some (.code aPB):=rfl
theorem aJr:tab 118=some (.code aPC):=rfl
theorem aJs:tab 119=some (.code aPD):=rfl
theorem aJt:tab 120=some (.code aPE):=rfl
theorem aJu:tab 121=some (.code aPF):=rfl
theorem aJv:tab 124=some (.code aPG):=rfl
theorem aBC:tab 125=some (.code aPH):=rfl
theorem aJw:tab 126=some (.code aPI):=rfl
theorem aJx:tab 127=some (.code aPJ):=rfl
theorem aJy:tab 128=some (.code aPK):=rfl
theorem aBD:tab 129=some (.code aEM):=rfl
theorem T5:tab 130=some (.code aC7):=rfl
theorem aJz:tab 131=some (.code aPL):=rfl
theorem aJA:tab 132=some (.code aPM):=rfl
theorem aBE:tab 135=some (.code aG7):=rfl
theorem aBF:tab 136=some (.code aG9):=rfl
theorem aJB:tab 137=some (.code aPN):=rfl
theorem T6:tab 138=some (.code aPO):=rfl
theorem aJC:tab 139=some (.code aPP):=rfl
theorem aJD:tab 140=some (.code aPQ):=rfl
theorem aJE:tab 141=some (.code aPR):=rfl
theorem aJF:tab 142=some (.code aPS):=rfl
theorem aJG:tab 143=some (.code aPT):=rfl
theorem aJH:tab 144=some (.code aPU):=rfl
theorem aJI:tab 145=some (.code aPV):=rfl
theorem aBG:tab 146=some (.code aPW):=rfl
theorem aJJ:tab 147=some (.shp S4):=rfl
theorem aJK:tab 148=some (.code aPX):=rfl
theorem aJL:tab 149=some (.code aPY):=rfl
theorem aJM:tab 150=some (.code aPZ):=rfl
theorem aJN:tab 151=some (.code aP0):=rfl
theorem aJO:tab 152=some (.code aP1):=rfl
theorem aJP:tab 153=some (.code aP2):=rfl
theorem aJQ:tab 154=some (.code aP3):=rfl
theorem aJR:tab 155=some (.code aP4):=rfl
theorem aJS:tab 158=some (.code aP5):=rfl
theorem aJT:tab 159=some (.code aP6):=rfl
theorem aJU:tab 160=some (.code aP7):=rfl
theorem aJV:tab 161=some (.code aP8):=rfl
theorem aJW:tab 162=some (.code aP9):=rfl
theorem aJX:tab 163=some (.code aQa):=rfl
theorem aJY:tab 164=some (.code aQb):=rfl
theorem aJZ:tab 165=some (.code aQc):=rfl
theorem aJ0:tab 166=some (.code aQd):=rfl
theorem aJ1:tab 168=some (.code aQe):=rfl
theorem aJ2:tab 172=some (.code aQf):=rfl
theorem aJ3:tab 173=some (.code aQg):=rfl
theorem aJ4:tab 174=some (.code aQh):=rfl
theorem aJ5:tab 175=some (.code aQi):=rfl
theorem aJ6:tab 176=some (.code aQj):=rfl
theorem aJ7:tab 177=some (.code aQk):=rfl
theorem aJ8:tab 179=some (.code aQl):=rfl
theorem aBH:tab 180=some (.code aQm):=rfl
theorem aJ9:tab 181=some (.code aQn):=rfl
theorem aKa:tab 182=some (.code aQo):=rfl
theorem aKb:tab 183=some (.code aQp):=rfl
theorem aKc:tab 184=some (.code aQq):=rfl
theorem aKd:tab 185=some (.code aQr):=rfl
theorem aBI:tab 186=some (.code aEN):=rfl
theorem MX:tab 187=some (.code aAt):=rfl
theorem T7:tab 188=some (.code aC8):=rfl
theorem aKe:tab 200=some (.code aQs):=rfl
theorem T8:tab 201=some (.code aQt):=rfl
theorem aKf:tab 202=some (.code aHV):=rfl
theorem aKg:tab 203=some (.code aQu):=rfl
theorem aKh:tab 204=some (.code aQv):=rfl
theorem aKi:tab 205=some (.code aQw):=rfl
theorem aKj:tab 206=some (.code aQx):=rfl
theorem aBJ:tab 207=some (.code aH1):=rfl
theorem aKk:tab 208=some (.code aQy):=rfl
theorem aKl:tab 209=some (.prim false (gF 3)):=rfl
theorem aKm:tab 210=some (.prim false (gF 3)):=rfl
theorem aKn:tab 211=some (.prim false (gF 5)):=rfl
theorem aKo:tab 212=some (.prim false (gF 1)):=rfl
theorem aKp:tab 214=some (.code aQz):=rfl
theorem aKq:tab 215=some (.code aQA):=rfl
theorem aKr:tab 216=some (.code aQB):=rfl
theorem aKs:tab 217=some (.code aQC):=rfl
theorem aKt:tab 218=some (.code aQD):=rfl
theorem aKu:tab 219=some (.code aQE):=rfl
theorem aKv:tab 220=some (.code aQF):=rfl
theorem aKw:tab 221=some (.code aQG):=rfl
theorem aKx:tab 223=some (.code aQH):=rfl
theorem aKy:tab 224=some (.code aQI):=rfl
theorem aKz:tab 227=some (.code aQJ):=rfl
theorem aKA:tab 228=some (.code aQK):=rfl
theorem aKB:tab 229=some (.code aQL):=rfl
theorem aKC:tab 230=some (.code aQM):=rfl
theorem aKD:tab 232=some (.code aQN):=rfl
theorem aKE:tab 233=some (.code aQO):=rfl
theorem aKF:tab 234=some (.code aQP):=rfl
theorem aKG:tab 235=some (.code aQQ):=rfl
theorem aKH:tab 236=some (.code aIm):=rfl
theorem aKI:tab 237=some (.code aQR):=rfl
theorem aKJ:tab 238=some (.code aQS):=rfl
theorem aKK:tab 239=some (.code aQT):=rfl
theorem aKL:tab 240=some (.code aQU):=rfl
theorem aKM:tab 246=some (.code aQV):=rfl
theorem aKN:tab 247=some (.code aQW):=rfl
theorem aKO:tab 248=some (.code aQX):=rfl
theorem aKP:tab 249=some (.code aQY):=rfl
theorem aKQ:tab 250=some (.code aQZ):=rfl
theorem T9:tab 251=some (.code aQ0):=rfl
theorem aKR:tab 252=some (.code aQ1):=rfl
theorem aBK:tab 253=some (.code aQ2):=rfl
theorem UA:tab 254=some (.code aQ3):=rfl
theorem aKS:tab 255=some (.code aQ4):=rfl
theorem aKT:tab 257=some (.code aQ5):=rfl
theorem aKU:tab 258=some (.code aQ6):=rfl
theorem aKV:tab 267=some (.code aQ7):=rfl
theorem aKW:tab 268=some (.code aQ8):=rfl
theorem aKX:tab 269=some (.code aQ9):=rfl
theorem aKY:tab 270=some (.code aRa):=rfl
theorem aKZ:tab 271=some (.code aRb):=rfl
theorem aK0:tab 272=some (.code aRc):=rfl
theorem aK1:tab 273=some (.code aRd):=rfl
theorem aK2:tab 274=some (.code aRe):=rfl
theorem aK3:tab 275=some (.code aRf):=rfl
theorem aK4:tab 276=some (.code aRg):=rfl
theorem UB:tab 278=some (.code aC9):=rfl
theorem aBL:tab 279=some (.code aRh):=rfl
theorem aK5:tab 280=some (.code aRi):=rfl
theorem aBM:tab 281=some (.code aIR):=rfl
theorem aK6:tab 282=some (.code aRj):=rfl
theorem aBN:tab 283=some (.code aIU):=rfl
theorem aK7:tab 284=some (.code aRk):=rfl
theorem aK8:tab 285=some (.code aRl):=rfl
theorem aK9:tab 289=some (.prim false HB):=rfl
theorem aLa:tab 290=some (.code aRm):=rfl
theorem aLb:tab 291=some (.code aRn):=rfl
theorem aLc:tab 292=some (.code aRo):=rfl
theorem aLd:tab 293=some (.code aRp):=rfl
theorem aLe:tab 294=some (.code aRq):=rfl
theorem aBO:tab 295=some (.code aRr):=rfl
theorem aLf:tab 296=some (.code aRs):=rfl
theorem aLg:tab 297=some (.code aRt):=rfl
theorem aBP:tab 298=some (.code aEO):=rfl
theorem aLh:tab 300=some (.code aRu):=rfl
theorem aLi:tab 301=some (.prim false (gF 1)):=rfl
end Go.Proofs.YtbgoiokedpjgbaaGreat
