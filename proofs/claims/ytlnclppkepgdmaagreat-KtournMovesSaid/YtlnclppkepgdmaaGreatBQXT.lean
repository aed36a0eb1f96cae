/- The table of the seat's functions. Printed by a program. -/
import Derived.Test.YtlnclppkepgdmaaGreatBQX1
import Derived.Test.YtlnclppkepgdmaaGreatBQX2
import Derived.Test.YtlnclppkepgdmaaGreatBQIO
import Derived.Test.YtlnclppkepgdmaaGreatChecked
set_option maxRecDepth 100000
namespace Go.Proofs.YtlnclppkepgdmaaGreat
open Go.Vm
theorem nR:Go.Proofs.Tryz.prog.follows .mixedOrders=true:=Go.Proofs.Tryz.checked.mixed
theorem aQ6:DF Go.Proofs.Tryz.prog 67 (.prim false (gA 1)):=⟨rfl,pU nR (zero:=[.int .i64 0]) (by decide+kernel)⟩
theorem aQ7:DF Go.Proofs.Tryz.prog 70 (.shp (TI ZQ)):=aQ5
theorem aIN:DF Go.Proofs.Tryz.prog 124 (.prim false (gA 3)):=⟨rfl,pU nR (zero:=[.int .i64 0,.int .i64 0,.int .i64 0]) (by decide+kernel)⟩
theorem aIO:DF Go.Proofs.Tryz.prog 181 (.prim false (gA 3)):=⟨rfl,pU nR (zero:=[.int .i64 0,.int .i64 0,.int .i64 0]) (by decide+kernel)⟩
theorem aIP:DF Go.Proofs.Tryz.prog 182 (.prim false (gA 3)):=⟨rfl,pU nR (zero:=[.int .i64 0,.int .i64 0,.int .i64 0]) (by decide+kernel)⟩
theorem aIQ:DF Go.Proofs.Tryz.prog 183 (.prim false (gA 5)):=⟨rfl,pU nR (zero:=[.int .i64 0,.int .i64 0,.int .i64 0,.int .i64 0,.int .i64 0]) (by decide+kernel)⟩
theorem aIR:DF Go.Proofs.Tryz.prog 184 (.prim false (gA 1)):=⟨rfl,pU nR (zero:=[.bool false]) (by decide+kernel)⟩
theorem aIS:DF Go.Proofs.Tryz.prog 300 (.prim false GP):=⟨rfl,ZD Go.Proofs.Tryz.func300 (by kernel_rfl) (by kernel_rfl) (by kernel_rfl) (by kernel_rfl)⟩
theorem aIT:DF Go.Proofs.Tryz.prog 315 (.prim false (gA 1)):=⟨rfl,pU nR (zero:=[.int .i64 0]) (by decide+kernel)⟩
noncomputable def aTV:TT:= .node 150 (.node 84 (.node 51 (.node 31 (.node 14 (.node 11 (.node 9 (.leaf 3 (.code x3)) (.node 10 (.leaf 9 (.code x9)) (.leaf 10 (.code x10)))) (.node 12 (.leaf 11 (.code x11)) (.node 13 (.leaf 12 (.code x12)) (.leaf 13 (.code x13))))) (.node 23 (.node 15 (.leaf 14 (.code x14)) (.node 16 (.leaf 15 (.code x15)) (.leaf 16 (.code x16)))) (.node 27 (.node 24 (.leaf 23 (.code x23)) (.leaf 24 (.code x24))) (.node 29 (.leaf 27 (.code x27)) (.leaf 29 (.code x29)))))) (.node 44 (.node 37 (.node 32 (.leaf 31 (.code x31)) (.node 36 (.leaf 32 (.code x32)) (.leaf 36 (.code x36)))) (.node 41 (.node 40 (.leaf 37 (.code x37)) (.leaf 40 (.code x40))) (.node 42 (.leaf 41 (.code x41)) (.leaf 42 (.code x42))))) (.node 47 (.node 45 (.leaf 44 (.code x44)) (.node 46 (.leaf 45 (.code x45)) (.leaf 46 (.code x46)))) (.node 49 (.node 48 (.leaf 47 (.code x47)) (.leaf 48 (.code x48))) (.node 50 (.leaf 49 (.code x49)) (.leaf 50 (.code x50))))))) (.node 70 (.node 58 (.node 54 (.node 52 (.leaf 51 (.code x51)) (.node 53 (.leaf 52 (.code x52)) (.leaf 53 (.code x53)))) (.node 56 (.node 55 (.leaf 54 (.code x54)) (.leaf 55 (.code x55))) (.node 57 (.leaf 56 (.code x56)) (.leaf 57 (.code x57))))) (.node 66 (.node 62 (.leaf 58 (.code x58)) (.node 65 (.leaf 62 (.code x62)) (.leaf 65 (.code x65)))) (.node 68 (.node 67 (.leaf 66 (.code x66)) (.leaf 67 (.prim false (gA 1)))) (.node 69 (.leaf 68 (.code x68)) (.leaf 69 (.code x69)))))) (.node 77 (.node 73 (.node 71 (.leaf 70 (.shp (TI ZQ))) (.node 72 (.leaf 71 (.code x71)) (.leaf 72 (.code x72)))) (.node 75 (.node 74 (.leaf 73 (.code x73)) (.leaf 74 (.code x74))) (.node 76 (.leaf 75 (.code x75)) (.leaf 76 (.code x76))))) (.node 80 (.node 78 (.leaf 77 (.code x77)) (.node 79 (.leaf 78 (.code x78)) (.leaf 79 (.code x79)))) (.node 82 (.node 81 (.leaf 80 (.code x80)) (.leaf 81 (.code x81))) (.node 83 (.leaf 82 (.code x82)) (.leaf 83 (.code x83)))))))) (.node 117 (.node 103 (.node 91 (.node 87 (.node 85 (.leaf 84 (.code x84)) (.node 86 (.leaf 85 (.code x85)) (.leaf 86 (.code x86)))) (.node 89 (.node 88 (.leaf 87 (.code x87)) (.leaf 88 (.code x88))) (.node 90 (.leaf 89 (.code x89)) (.leaf 90 (.code x90))))) (.node 96 (.node 94 (.leaf 91 (.code x91)) (.node 95 (.leaf 94 (.code x94)) (.leaf 95 (.code x95)))) (.node 98 (.node 97 (.leaf 96 (.code x96)) (.leaf 97 (.code x97))) (.node 102 (.leaf 98 (.code x98)) (.leaf 102 (.code aOV)))))) (.node 110 (.node 106 (.node 104 (.leaf 103 (.code aOW)) (.node 105 (.leaf 104 (.code aOX)) (.leaf 105 (.code aOY)))) (.node 108 (.node 107 (.leaf 106 (.code aOZ)) (.leaf 107 (.code aO0))) (.node 109 (.leaf 108 (.code aO1)) (.leaf 109 (.code aO2))))) (.node 113 (.node 111 (.leaf 110 (.code aO3)) (.node 112 (.leaf 111 (.code aO4)) (.leaf 112 (.code aO5)))) (.node 115 (.node 114 (.leaf 113 (.code aO6)) (.leaf 114 (.code aO7))) (.node 116 (.leaf 115 (.code aO8)) (.leaf 116 (.code aGw))))))) (.node 134 (.node 126 (.node 120 (.node 118 (.leaf 117 (.code aO9)) (.node 119 (.leaf 118 (.code aPa)) (.leaf 119 (.code aPb)))) (.node 122 (.node 121 (.leaf 120 (.code aPc)) (.leaf 121 (.code aPd))) (.node 124 (.leaf 122 (.code aPe)) (.leaf 124 (.prim false (gA 3)))))) (.node 130 (.node 128 (.leaf 126 (.code aPf)) (.node 129 (.leaf 128 (.code aPg)) (.leaf 129 (.code aPh)))) (.node 132 (.node 131 (.leaf 130 (.code aPi)) (.leaf 131 (.code aEs))) (.node 133 (.leaf 132 (.code aCP)) (.leaf 133 (.code aPj)))))) (.node 143 (.node 139 (.node 137 (.leaf 134 (.code WR)) (.node 138 (.leaf 137 (.code aGM)) (.leaf 138 (.code aPk)))) (.node 141 (.node 140 (.leaf 139 (.code aPl)) (.leaf 140 (.code aPm))) (.node 142 (.leaf 141 (.code aPn)) (.leaf 142 (.code aPo))))) (.node 146 (.node 144 (.leaf 143 (.code aPp)) (.node 145 (.leaf 144 (.code aPq)) (.leaf 145 (.code aPr)))) (.node 148 (.node 147 (.leaf 146 (.code aPs)) (.leaf 147 (.code aPt))) (.node 149 (.leaf 148 (.code aPu)) (.leaf 149 (.code aPv))))))))) (.node 231 (.node 187 (.node 173 (.node 160 (.node 153 (.node 151 (.leaf 150 (.code aPw)) (.node 152 (.leaf 151 (.code aPx)) (.leaf 152 (.code aPy)))) (.node 155 (.node 154 (.leaf 153 (.code aPz)) (.leaf 154 (.code aPA))) (.node 159 (.leaf 155 (.code aPB)) (.leaf 159 (.code aPC))))) (.node 169 (.node 163 (.leaf 160 (.code aPD)) (.node 168 (.leaf 163 (.code aPE)) (.leaf 168 (.code aPF)))) (.node 171 (.node 170 (.leaf 169 (.code aPG)) (.leaf 170 (.code aPH))) (.node 172 (.leaf 171 (.code aPI)) (.leaf 172 (.code aPJ)))))) (.node 180 (.node 176 (.node 174 (.leaf 173 (.code aPK)) (.node 175 (.leaf 174 (.code aPL)) (.leaf 175 (.code aPM)))) (.node 178 (.node 177 (.leaf 176 (.code aPN)) (.leaf 177 (.code aPO))) (.node 179 (.leaf 178 (.code aPP)) (.leaf 179 (.code aPQ))))) (.node 183 (.node 181 (.leaf 180 (.code aPR)) (.node 182 (.leaf 181 (.prim false (gA 3))) (.leaf 182 (.prim false (gA 3))))) (.node 185 (.node 184 (.leaf 183 (.prim false (gA 5))) (.leaf 184 (.prim false (gA 1)))) (.node 186 (.leaf 185 (.code aPS)) (.leaf 186 (.code aPT))))))) (.node 214 (.node 196 (.node 190 (.node 188 (.leaf 187 (.code aPU)) (.node 189 (.leaf 188 (.code aPV)) (.leaf 189 (.code aPW)))) (.node 194 (.node 191 (.leaf 190 (.code aPX)) (.leaf 191 (.code aPY))) (.node 195 (.leaf 194 (.code aPZ)) (.leaf 195 (.code aP0))))) (.node 199 (.node 197 (.leaf 196 (.code aP1)) (.node 198 (.leaf 197 (.code aP2)) (.leaf 198 (.code aP3)))) (.node 201 (.node 200 (.leaf 199 (.code aEt)) (.leaf 200 (.code aAa))) (.node 213 (.leaf 201 (.code aCQ)) (.leaf 213 (.code aP4)))))) (.node 221 (.node 217 (.node 215 (.leaf 214 (.code aP5)) (.node 216 (.leaf 215 (.code aP6)) (.leaf 216 (.code aP7)))) (.node 219 (.node 218 (.leaf 217 (.code aP8)) (.leaf 218 (.code aP9))) (.node 220 (.leaf 219 (.code aQa)) (.leaf 220 (.code aQb))))) (.node 225 (.node 222 (.leaf 221 (.code aQc)) (.node 223 (.leaf 222 (.code aQd)) (.leaf 223 (.code aQe)))) (.node 227 (.node 226 (.leaf 225 (.code aQf)) (.leaf 226 (.code aQg))) (.node 229 (.leaf 227 (.code aQh)) (.leaf 229 (.code aQi)))))))) (.node 273 (.node 245 (.node 238 (.node 234 (.node 232 (.leaf 231 (.code aQj)) (.node 233 (.leaf 232 (.code aQk)) (.leaf 233 (.code aQl)))) (.node 236 (.node 235 (.leaf 234 (.code aQm)) (.leaf 235 (.code aQn))) (.node 237 (.leaf 236 (.code aQo)) (.leaf 237 (.code aQp))))) (.node 241 (.node 239 (.leaf 238 (.code aQq)) (.node 240 (.leaf 239 (.code aQr)) (.leaf 240 (.code aQs)))) (.node 243 (.node 242 (.leaf 241 (.code aQt)) (.leaf 242 (.code aQu))) (.node 244 (.leaf 243 (.code aQv)) (.leaf 244 (.code aH3)))))) (.node 253 (.node 248 (.node 246 (.leaf 245 (.code aQw)) (.node 247 (.leaf 246 (.code aH6)) (.leaf 247 (.code aQx)))) (.node 251 (.node 249 (.leaf 248 (.code aQy)) (.leaf 249 (.code aQz))) (.node 252 (.leaf 251 (.code aIb)) (.leaf 252 (.code aQA))))) (.node 261 (.node 254 (.leaf 253 (.code aQB)) (.node 260 (.leaf 254 (.code aQC)) (.leaf 260 (.code aQD)))) (.node 271 (.node 262 (.leaf 261 (.code aQE)) (.leaf 262 (.code aQF))) (.node 272 (.leaf 271 (.code aQG)) (.leaf 272 (.code aQH))))))) (.node 296 (.node 288 (.node 284 (.node 282 (.leaf 273 (.code aQI)) (.node 283 (.leaf 282 (.code aQJ)) (.leaf 283 (.code aQK)))) (.node 286 (.node 285 (.leaf 284 (.code aQL)) (.leaf 285 (.code aQM))) (.node 287 (.leaf 286 (.code aCR)) (.leaf 287 (.code aQN))))) (.node 291 (.node 289 (.leaf 288 (.code aQO)) (.node 290 (.leaf 289 (.code aQP)) (.leaf 290 (.code aQQ)))) (.node 293 (.node 292 (.leaf 291 (.code aQR)) (.leaf 292 (.code aQS))) (.node 294 (.leaf 293 (.code aQT)) (.leaf 294 (.code aQU)))))) (.node 309 (.node 305 (.node 300 (.leaf 296 (.code aQV)) (.node 304 (.leaf 300 (.prim false GP)) (.leaf 304 (.code aEu)))) (.node 307 (.node 306 (.leaf 305 (.code aQW)) (.leaf 306 (.code aQX))) (.node 308 (.leaf 307 (.code aQY)) (.leaf 308 (.code aQZ))))) (.node 312 (.node 310 (.leaf 309 (.code aIF)) (.node 311 (.leaf 310 (.code aQ0)) (.leaf 311 (.code aII)))) (.node 316 (.node 315 (.leaf 312 (.code aQ1)) (.leaf 315 (.prim false (gA 1)))) (.node 317 (.leaf 316 (.code aQ2)) (.leaf 317 (.code aQ3)))))))))
theorem aBk:aTV.All (DF Go.Proofs.Tryz.prog):=⟨⟨⟨⟨⟨⟨⟨aTT,⟨aTU,aNT⟩⟩,⟨aNU,⟨aNV,aNW⟩⟩⟩,⟨⟨aNX,⟨aNY,aNZ⟩⟩,⟨⟨aN0,aN1⟩,⟨aN2,aN3⟩⟩⟩⟩,⟨⟨⟨aN4,⟨aN5,aN6⟩⟩,⟨⟨aN7,aN8⟩,⟨aN9,aOa⟩⟩⟩,⟨⟨aOb,⟨aOc,aOd⟩⟩,⟨⟨aOe,aOf⟩,⟨aOg,aOh⟩⟩⟩⟩⟩,⟨⟨⟨⟨aOi,⟨aOj,aOk⟩⟩,⟨⟨aOl,aOm⟩,⟨aOn,aOo⟩⟩⟩,⟨⟨aOp,⟨aOq,aOr⟩⟩,⟨⟨aOs,aQ6⟩,⟨aOt,aOu⟩⟩⟩⟩,⟨⟨⟨aQ7,⟨aOv,aOw⟩⟩,⟨⟨aOx,aOy⟩,⟨aOz,aOA⟩⟩⟩,⟨⟨aOB,⟨aOC,aOD⟩⟩,⟨⟨aOE,aOF⟩,⟨aOG,aOH⟩⟩⟩⟩⟩⟩,⟨⟨⟨⟨⟨aOI,⟨aOJ,aOK⟩⟩,⟨⟨aOL,aOM⟩,⟨aON,aOO⟩⟩⟩,⟨⟨aOP,⟨aOQ,aOR⟩⟩,⟨⟨aOS,aOT⟩,⟨aOU,aGi⟩⟩⟩⟩,⟨⟨⟨aGj,⟨aGk,aGl⟩⟩,⟨⟨aGm,aGn⟩,⟨aGo,aGp⟩⟩⟩,⟨⟨aGq,⟨aGr,aGs⟩⟩,⟨⟨aGt,aGu⟩,⟨aGv,aGx⟩⟩⟩⟩⟩,⟨⟨⟨⟨aGy,⟨aGz,aGA⟩⟩,⟨⟨aGB,aGC⟩,⟨aGD,aIN⟩⟩⟩,⟨⟨aGE,⟨aGF,aGG⟩⟩,⟨⟨aGH,aGI⟩,⟨aGJ,aGK⟩⟩⟩⟩,⟨⟨⟨aGL,⟨aGN,aGO⟩⟩,⟨⟨aGP,aGQ⟩,⟨aGR,aGS⟩⟩⟩,⟨⟨aGT,⟨aGU,aGV⟩⟩,⟨⟨aGW,aGX⟩,⟨aGY,aGZ⟩⟩⟩⟩⟩⟩⟩,⟨⟨⟨⟨⟨⟨aG0,⟨aG1,aG2⟩⟩,⟨⟨aG3,aG4⟩,⟨aG5,aG6⟩⟩⟩,⟨⟨aG7,⟨aG8,aG9⟩⟩,⟨⟨aHa,aHb⟩,⟨aHc,aHd⟩⟩⟩⟩,⟨⟨⟨aHe,⟨aHf,aHg⟩⟩,⟨⟨aHh,aHi⟩,⟨aHj,aHk⟩⟩⟩,⟨⟨aHl,⟨aIO,aIP⟩⟩,⟨⟨aIQ,aIR⟩,⟨aHm,aHn⟩⟩⟩⟩⟩,⟨⟨⟨⟨aHo,⟨aHp,aHq⟩⟩,⟨⟨aHr,aHs⟩,⟨aHt,aHu⟩⟩⟩,⟨⟨aHv,⟨aHw,aHx⟩⟩,⟨⟨aHy,aHz⟩,⟨aHA,aHB⟩⟩⟩⟩,⟨⟨⟨aHC,⟨aHD,aHE⟩⟩,⟨⟨aHF,aHG⟩,⟨aHH,aHI⟩⟩⟩,⟨⟨aHJ,⟨aHK,aHL⟩⟩,⟨⟨aHM,aHN⟩,⟨aHO,aHP⟩⟩⟩⟩⟩⟩,⟨⟨⟨⟨⟨aHQ,⟨aHR,aHS⟩⟩,⟨⟨aHT,aHU⟩,⟨aHV,aHW⟩⟩⟩,⟨⟨aHX,⟨aHY,aHZ⟩⟩,⟨⟨aH0,aH1⟩,⟨aH2,aH4⟩⟩⟩⟩,⟨⟨⟨aH5,⟨aH7,aH8⟩⟩,⟨⟨aH9,aIa⟩,⟨aIc,aId⟩⟩⟩,⟨⟨aIe,⟨aIf,aIg⟩⟩,⟨⟨aIh,aIi⟩,⟨aIj,aIk⟩⟩⟩⟩⟩,⟨⟨⟨⟨aIl,⟨aIm,aIn⟩⟩,⟨⟨aIo,aIp⟩,⟨aIq,aIr⟩⟩⟩,⟨⟨aIs,⟨aIt,aIu⟩⟩,⟨⟨aIv,aIw⟩,⟨aIx,aIy⟩⟩⟩⟩,⟨⟨⟨aIz,⟨aIS,aIA⟩⟩,⟨⟨aIB,aIC⟩,⟨aID,aIE⟩⟩⟩,⟨⟨aIG,⟨aIH,aIJ⟩⟩,⟨⟨aIK,aIT⟩,⟨aIL,aIM⟩⟩⟩⟩⟩⟩⟩⟩
noncomputable def tab:pT:=aTV.get
theorem aNq:tab 3=some (.code x3):=rfl
theorem aTW:tab 9=some (.code x9):=rfl
theorem aQ8:tab 10=some (.code x10):=rfl
theorem aEw:tab 11=some (.code x11):=rfl
theorem aQ9:tab 12=some (.code x12):=rfl
theorem aRa:tab 13=some (.code x13):=rfl
theorem aRb:tab 14=some (.code x14):=rfl
theorem aRc:tab 15=some (.code x15):=rfl
theorem aRd:tab 16=some (.code x16):=rfl
theorem aRe:tab 23=some (.code x23):=rfl
theorem aRf:tab 24=some (.code x24):=rfl
theorem aRg:tab 27=some (.code x27):=rfl
theorem aRh:tab 29=some (.code x29):=rfl
theorem aRi:tab 31=some (.code x31):=rfl
theorem aRj:tab 32=some (.code x32):=rfl
theorem aRk:tab 36=some (.code x36):=rfl
theorem aRl:tab 37=some (.code x37):=rfl
theorem aRm:tab 40=some (.code x40):=rfl
theorem aRn:tab 41=some (.code x41):=rfl
theorem aRo:tab 42=some (.code x42):=rfl
theorem aRp:tab 44=some (.code x44):=rfl
theorem aRq:tab 45=some (.code x45):=rfl
theorem aRr:tab 46=some (.code x46):=rfl
theorem aEx:tab 47=some (.code x47):=rfl
theorem aEy:tab 48=some (.code x48):=rfl
theorem aRs:tab 49=some (.code x49):=rfl
theorem aRt:tab 50=some (.code x50):=rfl
theorem aRu:tab 51=some (.code x51):=rfl
theorem aRv:tab 52=some (.code x52):=rfl
theorem aRw:tab 53=some (.code x53):=rfl
theorem aRx:tab 54=some (.code x54):=rfl
theorem aRy:tab 55=some (.code x55):=rfl
theorem aRz:tab 56=some (.code x56):=rfl
theorem aRA:tab 57=some (.code x57):=rfl
theorem aRB:tab 58=some (.code x58):=rfl
theorem aRC:tab 62=some (.code x62):=rfl
theorem aRD:tab 65=some (.code x65):=rfl
theorem aRE:tab 66=some (.code x66):=rfl
theorem aRF:tab 67=some (.prim false (gA 1)):=rfl
theorem aRG:tab 68=some (.code x68):=rfl
theorem aRH:tab 69=some (.code x69):=rfl
theorem aRI:tab 70=some (.shp (TI ZQ)):=rfl
theorem aRJ:tab 71=some (.code x71):=rfl
theorem aRK:tab 72=some (.code x72):=rfl
theorem aRL:tab 73=some (.code x73):=rfl
theorem aRM:tab 74=some (.code x74):=rfl
theorem aRN:tab 75=some (.code x75):=rfl
theorem aRO:tab 76=some (.code x76):=rfl
theorem aRP:tab 77=some (.code x77):=rfl
theorem aRQ:tab 78=some (.code x78):=rfl
theorem aRR:tab 79=some (.code x79):=rfl
theorem aRS:tab 80=some (.code x80):=rfl
theorem aRT:tab 81=some (.code x81):=rfl
theorem aRU:tab 82=some (.code x82):=rfl
theorem aRV:tab 83=some (.code x83):=rfl
theorem aRW:tab 84=some (.code x84):=rfl
theorem aRX:tab 85=some (.code x85):=rfl
theorem aRY:tab 86=some (.code x86):=rfl
theorem aRZ:tab 87=some (.code x87):=rfl
theorem aR0:tab 88=some (.code x88):=rfl
theorem aR1:tab 89=some (.code x89):=rfl
theorem aR2:tab 90=some (.code x90):=rfl
theorem aEz:tab 91=some (.code x91):=rfl
theorem aR3:tab 94=some (.code x94):=rfl
theorem aR4:tab 95=some (.code x95):=rfl
theorem aR5:tab 96=some (.code x96):=rfl
theorem aR6:tab 97=some (.code x97):=rfl
theorem aR7:tab 98=some (.code x98):=rfl
theorem aIU:tab 102=some (.code aOV):=rfl
theorem aBl:tab 103=some (.code aOW):=rfl
theorem aBm:tab 104=some (.code aOX):=rfl
theorem aIV:tab 105=some (.code aOY):=rfl
theorem aIW:tab 106=some (.code aOZ):=rfl
theorem aIX:tab 107=some (.code aO0):=rfl
theorem aIY:tab 108=some (.code aO1):=rfl
theorem aIZ:tab 109=some (.code aO2):=rfl
theorem aI0:tab 110=some (.code aO3):=rfl
theorem aI1:tab 111=some (.code aO4):=rfl
theorem aI2:tab 112=some (.code aO5):=rfl
theorem aI3:tab 113=some (.code aO6):=rfl
theorem aBn:tab 114=some (.code aO7):=rfl
theorem aI4:tab 115=some (.code aO8):=rfl
theorem aBo:tab 116=some (.code aGw):=rfl
theorem aI5:tab 117=some (.code aO9):=rfl
theorem aI6:tab 118=some (.code aPa):=rfl
theorem aI7:tab 119=some (.code aPb):=rfl
theorem aI8:tab 120=some (.code aPc):=rfl
theorem aI9:tab 121=some (.code aPd):=rfl
theorem aJa:tab 122=some (.code aPe):=rfl
theorem aJb:tab 124=some (.prim false (gA 3)):=rfl
theorem aJc:tab 126=some (.code aPf):=rfl
theorem aJd:tab 128=some (.code aPg):=rfl
theorem aJe:tab 129=some (.code aPh):=rfl
theorem aJf:tab 130=some (.code aPi):=rfl
theorem aBp:tab 131=some (.code aEs):=rfl
theorem TV:tab 132=some (.code aCP):=rfl
theorem aJg:tab 133=some (.code aPj):=rfl
theorem I1:tab 134=some (.code WR):=rfl
theorem aBq:tab 137=some (.code aGM):=rfl
theorem aJh:tab 138=some (.code aPk):=rfl
theorem TW:tab 139=some (.code aPl):=rfl
theorem aJi:tab 140=some (.code aPm):=rfl
theorem aJj:tab 141=some (.code aPn):=rfl
theorem aJk:tab 142=some (.code aPo):=rfl
theorem aJl:tab 143=some (.code aPp):=rfl
theorem aJm:tab 144=some (.code aPq):=rfl
theorem aJn:tab 145=some (.code aPr):=rfl
theorem aJo:tab 146=some (.code aPs):=rfl
theorem aJp:tab 147=some (.code aPt):=rfl
theorem TX:tab 148=some (.code aPu):=rfl
theorem aJq:tab 149=some (.code aPv):=rfl
theorem aBr:tab 150=some (.code aPw):=rfl
theorem TY:tab 151=some (.code aPx):=rfl
theorem aJr:tab 152=some (.code aPy):=rfl
theorem aJs:tab 153=some (.code aPz):=rfl
theorem aJt:tab 154=some (.code aPA):=rfl
theorem aJu:tab 155=some (.code aPB):=rfl
theorem aJv:tab 159=some (.code aPC):=rfl
theorem aJw:tab 160=some (.code aPD):=rfl
theorem aJx:tab 163=some (.code aPE):=rfl
theorem aJy:tab 168=some (.code aPF):=rfl
theorem aBs:tab 169=some (.code aPG):=rfl
theorem aJz:tab 170=some (.code aPH):=rfl
theorem aJA:tab 171=some (.code aPI):=rfl
theorem aJB:tab 172=some (.code aPJ):=rfl
theorem aJC:tab 173=some (.code aPK):=rfl
theorem aJD:tab 174=some (.code aPL):=rfl
theorem aJE:tab 175=some (.code aPM):=rfl
theorem aJF:tab 176=some (.code aPN):=rfl
theorem aJG:tab 177=some (.code aPO):=rfl
theorem aJH:tab 178=some (.code aPP):=rfl
theorem aJI:tab 179=some (.code aPQ):=rfl
theorem aBt:tab 180=some (.code aPR):=rfl
theorem aJJ:tab 181=some (.prim false (gA 3)):=rfl
theorem aJK:tab 182=some (.prim false (gA 3)):=rfl
theorem aJL:tab 183=some (.prim false (gA 5)):=rfl
theorem aJM:tab 184=some (.prim false (gA 1)):=rfl
theorem aJN:tab 185=some (.code aPS):=rfl
theorem aJO:tab 186=some (.code aPT):=rfl
theorem aJP:tab 187=some (.code aPU):=rfl
theorem aJQ:tab 188=some (.code aPV):=rfl
theorem aJR:tab 189=some (.code aPW):=rfl
theorem aJS:tab 190=some (.code aPX):=rfl
theorem aJT:tab 191=some (.code aPY):=rfl
theorem aJU:tab 194=some (.code aPZ):=rfl
theorem aJV:tab 195=some (.code aP0):=rfl
theorem aJW:tab 196=some (.code aP1):=rfl
theorem aJX:tab 197=some (.code aP2):=rfl
theorem aJY:tab 198=some (.code aP3):=rfl
theorem aBu:tab 199=some (.code aEt):=rfl
theorem MO:tab 200=some (.code aAa):=rfl
theorem TZ:tab 201=some (.code aCQ):=rfl
theorem aJZ:tab 213=some (.code aP4):=rfl
theorem T0:tab 214=some (.code aP5):=rfl
theorem aJ0:tab 215=some (.code aP6):=rfl
theorem aJ1:tab 216=some (.code aP7):=rfl
theorem aJ2:tab 217=some (.code aP8):=rfl
theorem aJ3:tab 218=some (.code aP9):=rfl
theorem aJ4:tab 219=some (.code aQa):=rfl
theorem aJ5:tab 220=some (.code aQb):=rfl
theorem aJ6:tab 221=some (.code aQc):=rfl
theorem aJ7:tab 222=some (.code aQd):=rfl
theorem aJ8:tab 223=some (.code aQe):=rfl
theorem aJ9:tab 225=some (.code aQf):=rfl
theorem aKa:tab 226=some (.code aQg):=rfl
theorem aKb:tab 227=some (.code aQh):=rfl
theorem aKc:tab 229=some (.code aQi):=rfl
theorem aKd:tab 231=some (.code aQj):=rfl
theorem aKe:tab 232=some (.code aQk):=rfl
theorem aKf:tab 233=some (.code aQl):=rfl
theorem aKg:tab 234=some (.code aQm):=rfl
theorem aKh:tab 235=some (.code aQn):=rfl
theorem aKi:tab 236=some (.code aQo):=rfl
theorem aKj:tab 237=some (.code aQp):=rfl
theorem aKk:tab 238=some (.code aQq):=rfl
theorem aKl:tab 239=some (.code aQr):=rfl
theorem aKm:tab 240=some (.code aQs):=rfl
theorem aKn:tab 241=some (.code aQt):=rfl
theorem aKo:tab 242=some (.code aQu):=rfl
theorem aKp:tab 243=some (.code aQv):=rfl
theorem aBv:tab 244=some (.code aH3):=rfl
theorem aKq:tab 245=some (.code aQw):=rfl
theorem aKr:tab 246=some (.code aH6):=rfl
theorem aKs:tab 247=some (.code aQx):=rfl
theorem aKt:tab 248=some (.code aQy):=rfl
theorem aKu:tab 249=some (.code aQz):=rfl
theorem aKv:tab 251=some (.code aIb):=rfl
theorem aKw:tab 252=some (.code aQA):=rfl
theorem T1:tab 253=some (.code aQB):=rfl
theorem aKx:tab 254=some (.code aQC):=rfl
theorem aKy:tab 260=some (.code aQD):=rfl
theorem aKz:tab 261=some (.code aQE):=rfl
theorem aKA:tab 262=some (.code aQF):=rfl
theorem aKB:tab 271=some (.code aQG):=rfl
theorem aKC:tab 272=some (.code aQH):=rfl
theorem aKD:tab 273=some (.code aQI):=rfl
theorem aKE:tab 282=some (.code aQJ):=rfl
theorem aKF:tab 283=some (.code aQK):=rfl
theorem aKG:tab 284=some (.code aQL):=rfl
theorem aKH:tab 285=some (.code aQM):=rfl
theorem T2:tab 286=some (.code aCR):=rfl
theorem aBw:tab 287=some (.code aQN):=rfl
theorem aKI:tab 288=some (.code aQO):=rfl
theorem aKJ:tab 289=some (.code aQP):=rfl
theorem aKK:tab 290=some (.code aQQ):=rfl
theorem aKL:tab 291=some (.code aQR):=rfl
theorem aKM:tab 292=some (.code aQS):=rfl
theorem aKN:tab 293=some (.code aQT):=rfl
theorem aKO:tab 294=some (.code aQU):=rfl
theorem aKP:tab 296=some (.code aQV):=rfl
theorem aKQ:tab 300=some (.prim false GP):=rfl
theorem aBx:tab 304=some (.code aEu):=rfl
theorem aKR:tab 305=some (.code aQW):=rfl
theorem aBy:tab 306=some (.code aQX):=rfl
theorem aKS:tab 307=some (.code aQY):=rfl
theorem aKT:tab 308=some (.code aQZ):=rfl
theorem aBz:tab 309=some (.code aIF):=rfl
theorem aKU:tab 310=some (.code aQ0):=rfl
theorem aBA:tab 311=some (.code aII):=rfl
theorem aKV:tab 312=some (.code aQ1):=rfl
theorem aKW:tab 315=some (.prim false (gA 1)):=rfl
theorem aKX:tab 316=some (.code aQ2):=rfl
theorem aKY:tab 317=some (.code aQ3):=rfl
end Go.Proofs.YtlnclppkepgdmaaGreat
