/- The table of the seat's functions. Printed by a program. -/
import Derived.Test.YtlnclppkepgdmaaGreatQX1
import Derived.Test.YtlnclppkepgdmaaGreatQIO
import Derived.Test.YtlnclppkepgdmaaGreatChecked
set_option maxRecDepth 100000
namespace Go.Proofs.YtlnclppkepgdmaaGreat
open Go.Vm
theorem nR:Go.Proofs.Tryz.prog.follows .mixedOrders=true:=Go.Proofs.Tryz.checked.mixed
theorem aRE:DN Go.Proofs.Tryz.prog 67 (.prim false (gH 1)):=⟨rfl,qD nR (zero:=[.int .i64 0]) (by decide+kernel)⟩
theorem aRF:DN Go.Proofs.Tryz.prog 70 (.shp (TW Z7)):=aRD
theorem aJd:DN Go.Proofs.Tryz.prog 124 (.prim false (gH 3)):=⟨rfl,qD nR (zero:=[.int .i64 0,.int .i64 0,.int .i64 0]) (by decide+kernel)⟩
theorem aJe:DN Go.Proofs.Tryz.prog 181 (.prim false (gH 3)):=⟨rfl,qD nR (zero:=[.int .i64 0,.int .i64 0,.int .i64 0]) (by decide+kernel)⟩
theorem aJf:DN Go.Proofs.Tryz.prog 182 (.prim false (gH 3)):=⟨rfl,qD nR (zero:=[.int .i64 0,.int .i64 0,.int .i64 0]) (by decide+kernel)⟩
theorem aJg:DN Go.Proofs.Tryz.prog 183 (.prim false (gH 5)):=⟨rfl,qD nR (zero:=[.int .i64 0,.int .i64 0,.int .i64 0,.int .i64 0,.int .i64 0]) (by decide+kernel)⟩
theorem aJh:DN Go.Proofs.Tryz.prog 184 (.prim false (gH 1)):=⟨rfl,qD nR (zero:=[.bool false]) (by decide+kernel)⟩
theorem aJi:DN Go.Proofs.Tryz.prog 300 (.prim false G3):=⟨rfl,ZU Go.Proofs.Tryz.func300 (by kernel_rfl) (by kernel_rfl) (by kernel_rfl) (by kernel_rfl)⟩
theorem aJj:DN Go.Proofs.Tryz.prog 315 (.prim false (gH 1)):=⟨rfl,qD nR (zero:=[.int .i64 0]) (by decide+kernel)⟩
noncomputable def aUy:TT:= .node 150 (.node 84 (.node 52 (.node 29 (.node 19 (.node 15 (.node 9 (.leaf 4 (.code x4)) (.node 14 (.leaf 9 (.code x9)) (.leaf 14 (.code x14)))) (.node 17 (.node 16 (.leaf 15 (.code x15)) (.leaf 16 (.code x16))) (.node 18 (.leaf 17 (.code x17)) (.leaf 18 (.code x18))))) (.node 22 (.node 20 (.leaf 19 (.code x19)) (.node 21 (.leaf 20 (.code x20)) (.leaf 21 (.code x21)))) (.node 24 (.node 23 (.leaf 22 (.code x22)) (.leaf 23 (.code x23))) (.node 27 (.leaf 24 (.code x24)) (.leaf 27 (.code x27)))))) (.node 42 (.node 33 (.node 31 (.leaf 29 (.code x29)) (.node 32 (.leaf 31 (.code x31)) (.leaf 32 (.code x32)))) (.node 40 (.node 36 (.leaf 33 (.code x33)) (.leaf 36 (.code x36))) (.node 41 (.leaf 40 (.code x40)) (.leaf 41 (.code x41))))) (.node 46 (.node 44 (.leaf 42 (.code x42)) (.node 45 (.leaf 44 (.code x44)) (.leaf 45 (.code x45)))) (.node 49 (.node 47 (.leaf 46 (.code x46)) (.leaf 47 (.code x47))) (.node 50 (.leaf 49 (.code x49)) (.leaf 50 (.code x50))))))) (.node 69 (.node 62 (.node 58 (.node 54 (.leaf 52 (.code x52)) (.node 57 (.leaf 54 (.code x54)) (.leaf 57 (.code x57)))) (.node 60 (.node 59 (.leaf 58 (.code x58)) (.leaf 59 (.code x59))) (.node 61 (.leaf 60 (.code x60)) (.leaf 61 (.code x61))))) (.node 65 (.node 63 (.leaf 62 (.code x62)) (.node 64 (.leaf 63 (.code x63)) (.leaf 64 (.code x64)))) (.node 67 (.node 66 (.leaf 65 (.code x65)) (.leaf 66 (.code x66))) (.node 68 (.leaf 67 (.prim false (gH 1))) (.leaf 68 (.code x68)))))) (.node 76 (.node 72 (.node 70 (.leaf 69 (.code x69)) (.node 71 (.leaf 70 (.shp (TW Z7))) (.leaf 71 (.code x71)))) (.node 74 (.node 73 (.leaf 72 (.code x72)) (.leaf 73 (.code x73))) (.node 75 (.leaf 74 (.code x74)) (.leaf 75 (.code x75))))) (.node 80 (.node 78 (.node 77 (.leaf 76 (.code x76)) (.leaf 77 (.code x77))) (.node 79 (.leaf 78 (.code x78)) (.leaf 79 (.code x79)))) (.node 82 (.node 81 (.leaf 80 (.code x80)) (.leaf 81 (.code x81))) (.node 83 (.leaf 82 (.code x82)) (.leaf 83 (.code x83)))))))) (.node 119 (.node 102 (.node 91 (.node 87 (.node 85 (.leaf 84 (.code x84)) (.node 86 (.leaf 85 (.code x85)) (.leaf 86 (.code x86)))) (.node 89 (.node 88 (.leaf 87 (.code x87)) (.leaf 88 (.code x88))) (.node 90 (.leaf 89 (.code x89)) (.leaf 90 (.code x90))))) (.node 95 (.node 92 (.leaf 91 (.code x91)) (.node 94 (.leaf 92 (.code x92)) (.leaf 94 (.code x94)))) (.node 97 (.node 96 (.leaf 95 (.code x95)) (.leaf 96 (.code x96))) (.node 98 (.leaf 97 (.code x97)) (.leaf 98 (.code x98)))))) (.node 109 (.node 105 (.node 103 (.leaf 102 (.code aPs)) (.node 104 (.leaf 103 (.code aPt)) (.leaf 104 (.code aPu)))) (.node 107 (.node 106 (.leaf 105 (.code aPv)) (.leaf 106 (.code aPw))) (.node 108 (.leaf 107 (.code aPx)) (.leaf 108 (.code aPy))))) (.node 113 (.node 110 (.leaf 109 (.code aPz)) (.node 112 (.leaf 110 (.code aPA)) (.leaf 112 (.code aPB)))) (.node 115 (.node 114 (.leaf 113 (.code aPC)) (.leaf 114 (.code aPD))) (.node 116 (.leaf 115 (.code aPE)) (.leaf 116 (.code aGT))))))) (.node 133 (.node 126 (.node 122 (.node 120 (.leaf 119 (.code aPF)) (.node 121 (.leaf 120 (.code aPG)) (.leaf 121 (.code aPH)))) (.node 124 (.node 123 (.leaf 122 (.code aPI)) (.leaf 123 (.code aPJ))) (.node 125 (.leaf 124 (.prim false (gH 3))) (.leaf 125 (.code aPK))))) (.node 129 (.node 127 (.leaf 126 (.code aPL)) (.node 128 (.leaf 127 (.code aPM)) (.leaf 128 (.code aPN)))) (.node 131 (.node 130 (.leaf 129 (.code aPO)) (.leaf 130 (.code aPP))) (.node 132 (.leaf 131 (.code aET)) (.leaf 132 (.code aDf)))))) (.node 142 (.node 138 (.node 134 (.leaf 133 (.code aPQ)) (.node 137 (.leaf 134 (.code XE)) (.leaf 137 (.code aHa)))) (.node 140 (.node 139 (.leaf 138 (.code aPR)) (.leaf 139 (.code aPS))) (.node 141 (.leaf 140 (.code aPT)) (.leaf 141 (.code aPU))))) (.node 146 (.node 144 (.node 143 (.leaf 142 (.code aPV)) (.leaf 143 (.code aPW))) (.node 145 (.leaf 144 (.code aPX)) (.leaf 145 (.code aPY)))) (.node 148 (.node 147 (.leaf 146 (.code aPZ)) (.leaf 147 (.code aP0))) (.node 149 (.leaf 148 (.code aP1)) (.leaf 149 (.code aP2))))))))) (.node 231 (.node 187 (.node 172 (.node 159 (.node 153 (.node 151 (.leaf 150 (.code aP3)) (.node 152 (.leaf 151 (.code aP4)) (.leaf 152 (.code aP5)))) (.node 155 (.node 154 (.leaf 153 (.code aP6)) (.leaf 154 (.code aP7))) (.node 156 (.leaf 155 (.code aP8)) (.leaf 156 (.code aP9))))) (.node 168 (.node 160 (.leaf 159 (.code aQa)) (.node 163 (.leaf 160 (.code aQb)) (.leaf 163 (.code aQc)))) (.node 170 (.node 169 (.leaf 168 (.code aQd)) (.leaf 169 (.code aQe))) (.node 171 (.leaf 170 (.code aQf)) (.leaf 171 (.code aQg)))))) (.node 180 (.node 176 (.node 174 (.leaf 172 (.code aQh)) (.node 175 (.leaf 174 (.code aQi)) (.leaf 175 (.code aQj)))) (.node 178 (.node 177 (.leaf 176 (.code aQk)) (.leaf 177 (.code aQl))) (.node 179 (.leaf 178 (.code aQm)) (.leaf 179 (.code aQn))))) (.node 183 (.node 181 (.leaf 180 (.code aQo)) (.node 182 (.leaf 181 (.prim false (gH 3))) (.leaf 182 (.prim false (gH 3))))) (.node 185 (.node 184 (.leaf 183 (.prim false (gH 5))) (.leaf 184 (.prim false (gH 1)))) (.node 186 (.leaf 185 (.code aQp)) (.leaf 186 (.code aQq))))))) (.node 213 (.node 195 (.node 191 (.node 189 (.leaf 187 (.code aQr)) (.node 190 (.leaf 189 (.code aQs)) (.leaf 190 (.code aQt)))) (.node 193 (.node 192 (.leaf 191 (.code aQu)) (.leaf 192 (.code aQv))) (.node 194 (.leaf 193 (.code aQw)) (.leaf 194 (.code aQx))))) (.node 198 (.node 196 (.leaf 195 (.code aQy)) (.node 197 (.leaf 196 (.code aQz)) (.leaf 197 (.code aQA)))) (.node 200 (.node 199 (.leaf 198 (.code aQB)) (.leaf 199 (.code aEU))) (.node 201 (.leaf 200 (.code aAr)) (.leaf 201 (.code aDg)))))) (.node 220 (.node 216 (.node 214 (.leaf 213 (.code aQC)) (.node 215 (.leaf 214 (.code aQD)) (.leaf 215 (.code aQE)))) (.node 218 (.node 217 (.leaf 216 (.code aQF)) (.leaf 217 (.code aQG))) (.node 219 (.leaf 218 (.code aQH)) (.leaf 219 (.code aQI))))) (.node 225 (.node 222 (.node 221 (.leaf 220 (.code aQJ)) (.leaf 221 (.code aQK))) (.node 223 (.leaf 222 (.code aQL)) (.leaf 223 (.code aQM)))) (.node 227 (.node 226 (.leaf 225 (.code aQN)) (.leaf 226 (.code aQO))) (.node 229 (.leaf 227 (.code aQP)) (.leaf 229 (.code aQQ)))))))) (.node 272 (.node 245 (.node 238 (.node 234 (.node 232 (.leaf 231 (.code aQR)) (.node 233 (.leaf 232 (.code aQS)) (.leaf 233 (.code aQT)))) (.node 236 (.node 235 (.leaf 234 (.code aQU)) (.leaf 235 (.code aQV))) (.node 237 (.leaf 236 (.code aQW)) (.leaf 237 (.code aQX))))) (.node 241 (.node 239 (.leaf 238 (.code aQY)) (.node 240 (.leaf 239 (.code aQZ)) (.leaf 240 (.code aQ0)))) (.node 243 (.node 242 (.leaf 241 (.code aQ1)) (.leaf 242 (.code aQ2))) (.node 244 (.leaf 243 (.code aQ3)) (.leaf 244 (.code aIs)))))) (.node 252 (.node 248 (.node 246 (.leaf 245 (.code aQ4)) (.node 247 (.leaf 246 (.code aIv)) (.leaf 247 (.code aQ5)))) (.node 250 (.node 249 (.leaf 248 (.code aQ6)) (.leaf 249 (.code aQ7))) (.node 251 (.leaf 250 (.code aQ8)) (.leaf 251 (.code aIB))))) (.node 260 (.node 253 (.leaf 252 (.code aQ9)) (.node 254 (.leaf 253 (.code aRa)) (.leaf 254 (.code aRb)))) (.node 262 (.node 261 (.leaf 260 (.code aRc)) (.leaf 261 (.code aRd))) (.node 271 (.leaf 262 (.code aRe)) (.leaf 271 (.code aRf))))))) (.node 294 (.node 287 (.node 283 (.node 273 (.leaf 272 (.code aRg)) (.node 282 (.leaf 273 (.code aRh)) (.leaf 282 (.code aRi)))) (.node 285 (.node 284 (.leaf 283 (.code aRj)) (.leaf 284 (.code aRk))) (.node 286 (.leaf 285 (.code aRl)) (.leaf 286 (.code aDh))))) (.node 290 (.node 288 (.leaf 287 (.code aRm)) (.node 289 (.leaf 288 (.code aRn)) (.leaf 289 (.code aRo)))) (.node 292 (.node 291 (.leaf 290 (.code aRp)) (.leaf 291 (.code aRq))) (.node 293 (.leaf 292 (.code aRr)) (.leaf 293 (.code aRs)))))) (.node 308 (.node 304 (.node 296 (.leaf 294 (.code aRt)) (.node 300 (.leaf 296 (.code aRu)) (.leaf 300 (.prim false G3)))) (.node 306 (.node 305 (.leaf 304 (.code aEV)) (.leaf 305 (.code aRv))) (.node 307 (.leaf 306 (.code aRw)) (.leaf 307 (.code aRx))))) (.node 312 (.node 310 (.node 309 (.leaf 308 (.code aRy)) (.leaf 309 (.code aI5))) (.node 311 (.leaf 310 (.code aRz)) (.leaf 311 (.code aI8)))) (.node 316 (.node 315 (.leaf 312 (.code aRA)) (.leaf 315 (.prim false (gH 1)))) (.node 317 (.leaf 316 (.code aRB)) (.leaf 317 (.code aRC)))))))))
theorem aBJ:aUy.All (DN Go.Proofs.Tryz.prog):=⟨⟨⟨⟨⟨⟨⟨aUw,⟨aUx,aOn⟩⟩,⟨⟨aOo,aOp⟩,⟨aOq,aOr⟩⟩⟩,⟨⟨aOs,⟨aOt,aOu⟩⟩,⟨⟨aOv,aOw⟩,⟨aOx,aOy⟩⟩⟩⟩,⟨⟨⟨aOz,⟨aOA,aOB⟩⟩,⟨⟨aOC,aOD⟩,⟨aOE,aOF⟩⟩⟩,⟨⟨aOG,⟨aOH,aOI⟩⟩,⟨⟨aOJ,aOK⟩,⟨aOL,aOM⟩⟩⟩⟩⟩,⟨⟨⟨⟨aON,⟨aOO,aOP⟩⟩,⟨⟨aOQ,aOR⟩,⟨aOS,aOT⟩⟩⟩,⟨⟨aOU,⟨aOV,aOW⟩⟩,⟨⟨aOX,aOY⟩,⟨aRE,aOZ⟩⟩⟩⟩,⟨⟨⟨aO0,⟨aRF,aO1⟩⟩,⟨⟨aO2,aO3⟩,⟨aO4,aO5⟩⟩⟩,⟨⟨⟨aO6,aO7⟩,⟨aO8,aO9⟩⟩,⟨⟨aPa,aPb⟩,⟨aPc,aPd⟩⟩⟩⟩⟩⟩,⟨⟨⟨⟨⟨aPe,⟨aPf,aPg⟩⟩,⟨⟨aPh,aPi⟩,⟨aPj,aPk⟩⟩⟩,⟨⟨aPl,⟨aPm,aPn⟩⟩,⟨⟨aPo,aPp⟩,⟨aPq,aPr⟩⟩⟩⟩,⟨⟨⟨aGG,⟨aGH,aGI⟩⟩,⟨⟨aGJ,aGK⟩,⟨aGL,aGM⟩⟩⟩,⟨⟨aGN,⟨aGO,aGP⟩⟩,⟨⟨aGQ,aGR⟩,⟨aGS,aGU⟩⟩⟩⟩⟩,⟨⟨⟨⟨aGV,⟨aGW,aGX⟩⟩,⟨⟨aGY,aGZ⟩,⟨aJd,aG0⟩⟩⟩,⟨⟨aG1,⟨aG2,aG3⟩⟩,⟨⟨aG4,aG5⟩,⟨aG6,aG7⟩⟩⟩⟩,⟨⟨⟨aG8,⟨aG9,aHb⟩⟩,⟨⟨aHc,aHd⟩,⟨aHe,aHf⟩⟩⟩,⟨⟨⟨aHg,aHh⟩,⟨aHi,aHj⟩⟩,⟨⟨aHk,aHl⟩,⟨aHm,aHn⟩⟩⟩⟩⟩⟩⟩,⟨⟨⟨⟨⟨⟨aHo,⟨aHp,aHq⟩⟩,⟨⟨aHr,aHs⟩,⟨aHt,aHu⟩⟩⟩,⟨⟨aHv,⟨aHw,aHx⟩⟩,⟨⟨aHy,aHz⟩,⟨aHA,aHB⟩⟩⟩⟩,⟨⟨⟨aHC,⟨aHD,aHE⟩⟩,⟨⟨aHF,aHG⟩,⟨aHH,aHI⟩⟩⟩,⟨⟨aHJ,⟨aJe,aJf⟩⟩,⟨⟨aJg,aJh⟩,⟨aHK,aHL⟩⟩⟩⟩⟩,⟨⟨⟨⟨aHM,⟨aHN,aHO⟩⟩,⟨⟨aHP,aHQ⟩,⟨aHR,aHS⟩⟩⟩,⟨⟨aHT,⟨aHU,aHV⟩⟩,⟨⟨aHW,aHX⟩,⟨aHY,aHZ⟩⟩⟩⟩,⟨⟨⟨aH0,⟨aH1,aH2⟩⟩,⟨⟨aH3,aH4⟩,⟨aH5,aH6⟩⟩⟩,⟨⟨⟨aH7,aH8⟩,⟨aH9,aIa⟩⟩,⟨⟨aIb,aIc⟩,⟨aId,aIe⟩⟩⟩⟩⟩⟩,⟨⟨⟨⟨⟨aIf,⟨aIg,aIh⟩⟩,⟨⟨aIi,aIj⟩,⟨aIk,aIl⟩⟩⟩,⟨⟨aIm,⟨aIn,aIo⟩⟩,⟨⟨aIp,aIq⟩,⟨aIr,aIt⟩⟩⟩⟩,⟨⟨⟨aIu,⟨aIw,aIx⟩⟩,⟨⟨aIy,aIz⟩,⟨aIA,aIC⟩⟩⟩,⟨⟨aID,⟨aIE,aIF⟩⟩,⟨⟨aIG,aIH⟩,⟨aII,aIJ⟩⟩⟩⟩⟩,⟨⟨⟨⟨aIK,⟨aIL,aIM⟩⟩,⟨⟨aIN,aIO⟩,⟨aIP,aIQ⟩⟩⟩,⟨⟨aIR,⟨aIS,aIT⟩⟩,⟨⟨aIU,aIV⟩,⟨aIW,aIX⟩⟩⟩⟩,⟨⟨⟨aIY,⟨aIZ,aJi⟩⟩,⟨⟨aI0,aI1⟩,⟨aI2,aI3⟩⟩⟩,⟨⟨⟨aI4,aI6⟩,⟨aI7,aI9⟩⟩,⟨⟨aJa,aJj⟩,⟨aJb,aJc⟩⟩⟩⟩⟩⟩⟩⟩
noncomputable def tab:qC:=aUy.get
theorem aNV:tab 4=some (.code x4):=rfl
theorem aUz:tab 9=some (.code x9):=rfl
theorem aRG:tab 14=some (.code x14):=rfl
theorem aRH:tab 15=some (.code x15):=rfl
theorem aRI:tab 16=some (.code x16):=rfl
theorem aRJ:tab 17=some (.code x17):=rfl
theorem aRK:tab 18=some (.code x18):=rfl
theorem aRL:tab 19=some (.code x19):=rfl
theorem aRM:tab 20=some (.code x20):=rfl
theorem aRN:tab 21=some (.code x21):=rfl
theorem aRO:tab 22=some (.code x22):=rfl
theorem aRP:tab 23=some (.code x23):=rfl
theorem aRQ:tab 24=some (.code x24):=rfl
theorem aRR:tab 27=some (.code x27):=rfl
theorem aRS:tab 29=some (.code x29):=rfl
theorem aRT:tab 31=some (.code x31):=rfl
theorem aRU:tab 32=some (.code x32):=rfl
theorem aRV:tab 33=some (.code x33):=rfl
theorem aRW:tab 36=some (.code x36):=rfl
theorem aRX:tab 40=some (.code x40):=rfl
theorem aRY:tab 41=some (.code x41):=rfl
theorem aRZ:tab 42=some (.code x42):=rfl
theorem aR0:tab 44=some (.code x44):=rfl
theorem aR1:tab 45=some (.code x45):=rfl
theorem aR2:tab 46=some (.code x46):=rfl
theorem aEW:tab 47=some (.code x47):=rfl
theorem aR3:tab 49=some (.code x49):=rfl
theorem aR4:tab 50=some (.code x50):=rfl
theorem aR5:tab 52=some (.code x52):=rfl
theorem aR6:tab 54=some (.code x54):=rfl
theorem aR7:tab 57=some (.code x57):=rfl
theorem aR8:tab 58=some (.code x58):=rfl
theorem aR9:tab 59=some (.code x59):=rfl
theorem aSa:tab 60=some (.code x60):=rfl
theorem aSb:tab 61=some (.code x61):=rfl
theorem aSc:tab 62=some (.code x62):=rfl
theorem aSd:tab 63=some (.code x63):=rfl
theorem aSe:tab 64=some (.code x64):=rfl
theorem aSf:tab 65=some (.code x65):=rfl
theorem aSg:tab 66=some (.code x66):=rfl
theorem aSh:tab 67=some (.prim false (gH 1)):=rfl
theorem aSi:tab 68=some (.code x68):=rfl
theorem aSj:tab 69=some (.code x69):=rfl
theorem aSk:tab 70=some (.shp (TW Z7)):=rfl
theorem aSl:tab 71=some (.code x71):=rfl
theorem aSm:tab 72=some (.code x72):=rfl
theorem aSn:tab 73=some (.code x73):=rfl
theorem aSo:tab 74=some (.code x74):=rfl
theorem aSp:tab 75=some (.code x75):=rfl
theorem aSq:tab 76=some (.code x76):=rfl
theorem aSr:tab 77=some (.code x77):=rfl
theorem aSs:tab 78=some (.code x78):=rfl
theorem aSt:tab 79=some (.code x79):=rfl
theorem aSu:tab 80=some (.code x80):=rfl
theorem aSv:tab 81=some (.code x81):=rfl
theorem aSw:tab 82=some (.code x82):=rfl
theorem aSx:tab 83=some (.code x83):=rfl
theorem aSy:tab 84=some (.code x84):=rfl
theorem aSz:tab 85=some (.code x85):=rfl
theorem aSA:tab 86=some (.code x86):=rfl
theorem aSB:tab 87=some (.code x87):=rfl
theorem aSC:tab 88=some (.code x88):=rfl
theorem aSD:tab 89=some (.code x89):=rfl
theorem aSE:tab 90=some (.code x90):=rfl
theorem aEX:tab 91=some (.code x91):=rfl
theorem aSF:tab 92=some (.code x92):=rfl
theorem aSG:tab 94=some (.code x94):=rfl
theorem aSH:tab 95=some (.code x95):=rfl
theorem aSI:tab 96=some (.code x96):=rfl
theorem aSJ:tab 97=some (.code x97):=rfl
theorem aSK:tab 98=some (.code x98):=rfl
theorem aJk:tab 102=some (.code aPs):=rfl
theorem aBK:tab 103=some (.code aPt):=rfl
theorem aBL:tab 104=some (.code aPu):=rfl
theorem aJl:tab 105=some (.code aPv):=rfl
theorem aJm:tab 106=some (.code aPw):=rfl
theorem aJn:tab 107=some (.code aPx):=rfl
theorem aJo:tab 108=some (.code aPy):=rfl
theorem aJp:tab 109=some (.code aPz):=rfl
theorem aJq:tab 110=some (.code aPA):=rfl
theorem aJr:tab 112=some (.code aPB):=rfl
theorem aJs:tab 113=some (.code aPC):=rfl
theorem aBM:tab 114=some (.code aPD):=rfl
theorem aJt:tab 115=some (.code aPE):=rfl
theorem aBN:tab 116=some (.code aGT):=rfl
theorem aJu:tab 119=some (.code aPF):=rfl
theorem aJv:tab 120=some (.code aPG):=rfl
theorem aJw:tab 121=some (.code aPH):=rfl
theorem aJx:tab 122=some (.code aPI):=rfl
theorem aJy:tab 123=some (.code aPJ):=rfl
theorem aJz:tab 124=some (.prim false (gH 3)):=rfl
theorem aBO:tab 125=some (.code aPK):=rfl
theorem aJA:tab 126=some (.code aPL):=rfl
theorem aJB:tab 127=some (.code aPM):=rfl
theorem aJC:tab 128=some (.code aPN):=rfl
theorem aJD:tab 129=some (.code aPO):=rfl
theorem aJE:tab 130=some (.code aPP):=rfl
theorem aBP:tab 131=some (.code aET):=rfl
theorem T8:tab 132=some (.code aDf):=rfl
theorem aJF:tab 133=some (.code aPQ):=rfl
theorem JB:tab 134=some (.code XE):=rfl
theorem aBQ:tab 137=some (.code aHa):=rfl
theorem aJG:tab 138=some (.code aPR):=rfl
theorem T9:tab 139=some (.code aPS):=rfl
theorem aJH:tab 140=some (.code aPT):=rfl
theorem aJI:tab 141=some (.code aPU):=rfl
theorem aJJ:tab 142=some (.code aPV):=rfl
theorem aJK:tab 143=some (.code aPW):=rfl
theorem aJL:tab 144=some (.code aPX):=rfl
theorem aJM:tab 145=some (.code aPY):=rfl
theorem aJN:tab 146=some (.code aPZ):=rfl
theorem aJO:tab 147=some (.code aP0):=rfl
theorem UA:tab 148=some (.code aP1):=rfl
theorem aJP:tab 149=some (.code aP2):=rfl
theorem aBR:tab 150=some (.code aP3):=rfl
theorem UB:tab 151=some (.code aP4):=rfl
theorem aJQ:tab 152=some (.code aP5):=rfl
theorem aJR:tab 153=some (.code aP6):=rfl
theorem aJS:tab 154=some (.code aP7):=rfl
theorem aJT:tab 155=some (.code aP8):=rfl
theorem aJU:tab 156=some (.code aP9):=rfl
theorem aJV:tab 159=some (.code aQa):=rfl
theorem aJW:tab 160=some (.code aQb):=rfl
theorem aJX:tab 163=some (.code aQc):=rfl
theorem aJY:tab 168=some (.code aQd):=rfl
theorem aBS:tab 169=some (.code aQe):=rfl
theorem aJZ:tab 170=some (.code aQf):=rfl
theorem aJ0:tab 171=some (.code aQg):=rfl
theorem aJ1:tab 172=some (.code aQh):=rfl
theorem aJ2:tab 174=some (.code aQi):=rfl
theorem aJ3:tab 175=some (.code aQj):=rfl
theorem aJ4:tab 176=some (.code aQk):=rfl
theorem aJ5:tab 177=some (.code aQl):=rfl
theorem aJ6:tab 178=some (.code aQm):=rfl
theorem aJ7:tab 179=some (.code aQn):=rfl
theorem aBT:tab 180=some (.code aQo):=rfl
theorem aJ8:tab 181=some (.prim false (gH 3)):=rfl
theorem aJ9:tab 182=some (.prim false (gH 3)):=rfl
theorem aKa:tab 183=some (.prim false (gH 5)):=rfl
theorem aKb:tab 184=some (.prim false (gH 1)):=rfl
theorem aKc:tab 185=some (.code aQp):=rfl
theorem aKd:tab 186=some (.code aQq):=rfl
theorem aKe:tab 187=some (.code aQr):=rfl
theorem aKf:tab 189=some (.code aQs):=rfl
theorem aKg:tab 190=some (.code aQt):=rfl
theorem aKh:tab 191=some (.code aQu):=rfl
theorem aKi:tab 192=some (.code aQv):=rfl
theorem aKj:tab 193=some (.code aQw):=rfl
theorem aKk:tab 194=some (.code aQx):=rfl
theorem aKl:tab 195=some (.code aQy):=rfl
theorem aKm:tab 196=some (.code aQz):=rfl
theorem aKn:tab 197=some (.code aQA):=rfl
theorem aKo:tab 198=some (.code aQB):=rfl
theorem aBU:tab 199=some (.code aEU):=rfl
theorem MX:tab 200=some (.code aAr):=rfl
theorem UC:tab 201=some (.code aDg):=rfl
theorem aKp:tab 213=some (.code aQC):=rfl
theorem UD:tab 214=some (.code aQD):=rfl
theorem aKq:tab 215=some (.code aQE):=rfl
theorem aKr:tab 216=some (.code aQF):=rfl
theorem aKs:tab 217=some (.code aQG):=rfl
theorem aKt:tab 218=some (.code aQH):=rfl
theorem aKu:tab 219=some (.code aQI):=rfl
theorem aKv:tab 220=some (.code aQJ):=rfl
theorem aKw:tab 221=some (.code aQK):=rfl
theorem aKx:tab 222=some (.code aQL):=rfl
theorem aKy:tab 223=some (.code aQM):=rfl
theorem aKz:tab 225=some (.code aQN):=rfl
theorem aKA:tab 226=some (.code aQO):=rfl
theorem aKB:tab 227=some (.code aQP):=rfl
theorem aKC:tab 229=some (.code aQQ):=rfl
theorem aKD:tab 231=some (.code aQR):=rfl
theorem aKE:tab 232=some (.code aQS):=rfl
theorem aKF:tab 233=some (.code aQT):=rfl
theorem aKG:tab 234=some (.code aQU):=rfl
theorem aKH:tab 235=some (.code aQV):=rfl
theorem aKI:tab 236=some (.code aQW):=rfl
theorem aKJ:tab 237=some (.code aQX):=rfl
theorem aKK:tab 238=some (.code aQY):=rfl
theorem aKL:tab 239=some (.code aQZ):=rfl
theorem aKM:tab 240=some (.code aQ0):=rfl
theorem aKN:tab 241=some (.code aQ1):=rfl
theorem aKO:tab 242=some (.code aQ2):=rfl
theorem aKP:tab 243=some (.code aQ3):=rfl
theorem aBV:tab 244=some (.code aIs):=rfl
theorem aKQ:tab 245=some (.code aQ4):=rfl
theorem aKR:tab 246=some (.code aIv):=rfl
theorem aKS:tab 247=some (.code aQ5):=rfl
theorem aKT:tab 248=some (.code aQ6):=rfl
theorem aKU:tab 249=some (.code aQ7):=rfl
theorem aKV:tab 250=some (.code aQ8):=rfl
theorem aKW:tab 251=some (.code aIB):=rfl
theorem aKX:tab 252=some (.code aQ9):=rfl
theorem UE:tab 253=some (.code aRa):=rfl
theorem aKY:tab 254=some (.code aRb):=rfl
theorem aKZ:tab 260=some (.code aRc):=rfl
theorem aK0:tab 261=some (.code aRd):=rfl
theorem aK1:tab 262=some (.code aRe):=rfl
theorem aK2:tab 271=some (.code aRf):=rfl
theorem aK3:tab 272=some (.code aRg):=rfl
theorem aK4:tab 273=some (.code aRh):=rfl
theorem aK5:tab 282=some (.code aRi):=rfl
theorem aK6:tab 283=some (.code aRj):=rfl
theorem aK7:tab 284=some (.code aRk):=rfl
theorem aK8:tab 285=some (.code aRl):=rfl
theorem UF:tab 286=some (.code aDh):=rfl
theorem aBW:tab 287=some (.code aRm):=rfl
theorem aK9:tab 288=some (.code aRn):=rfl
theorem aLa:tab 289=some (.code aRo):=rfl
theorem aLb:tab 290=some (.code aRp):=rfl
theorem aLc:tab 291=some (.code aRq):=rfl
theorem aLd:tab 292=some (.code aRr):=rfl
theorem aLe:tab 293=some (.code aRs):=rfl
theorem aLf:tab 294=some (.code aRt):=rfl
theorem aLg:tab 296=some (.code aRu):=rfl
theorem aLh:tab 300=some (.prim false G3):=rfl
theorem aBX:tab 304=some (.code aEV):=rfl
theorem aLi:tab 305=some (.code aRv):=rfl
theorem aBY:tab 306=some (.code aRw):=rfl
theorem aLj:tab 307=some (.code aRx):=rfl
theorem aLk:tab 308=some (.code aRy):=rfl
theorem aBZ:tab 309=some (.code aI5):=rfl
theorem aLl:tab 310=some (.code aRz):=rfl
theorem aB0:tab 311=some (.code aI8):=rfl
theorem aLm:tab 312=some (.code aRA):=rfl
theorem aLn:tab 315=some (.prim false (gH 1)):=rfl
theorem aLo:tab 316=some (.code aRB):=rfl
theorem aLp:tab 317=some (.code aRC):=rfl
end Go.Proofs.YtlnclppkepgdmaaGreat
