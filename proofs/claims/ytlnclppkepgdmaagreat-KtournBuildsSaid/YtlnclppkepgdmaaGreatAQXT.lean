/- The table of the seat's functions. Printed by a program. -/
import Derived.Test.YtlnclppkepgdmaaGreatAQX1
import Derived.Test.YtlnclppkepgdmaaGreatAQX2
import Derived.Test.YtlnclppkepgdmaaGreatAQIO
import Derived.Test.YtlnclppkepgdmaaGreatChecked
set_option maxRecDepth 100000
namespace Go.Proofs.YtlnclppkepgdmaaGreat
open Go.Vm
theorem nT:Go.Proofs.Tryz.prog.follows .mixedOrders=true:=Go.Proofs.Tryz.checked.mixed
theorem aRH:DO Go.Proofs.Tryz.prog 67 (.prim false (gH 1)):=⟨rfl,qE nT (zero:=[.int .i64 0]) (by decide+kernel)⟩
theorem aRI:DO Go.Proofs.Tryz.prog 70 (.shp (TX Z9)):=aRG
theorem aJf:DO Go.Proofs.Tryz.prog 124 (.prim false (gH 3)):=⟨rfl,qE nT (zero:=[.int .i64 0,.int .i64 0,.int .i64 0]) (by decide+kernel)⟩
theorem aJg:DO Go.Proofs.Tryz.prog 181 (.prim false (gH 3)):=⟨rfl,qE nT (zero:=[.int .i64 0,.int .i64 0,.int .i64 0]) (by decide+kernel)⟩
theorem aJh:DO Go.Proofs.Tryz.prog 182 (.prim false (gH 3)):=⟨rfl,qE nT (zero:=[.int .i64 0,.int .i64 0,.int .i64 0]) (by decide+kernel)⟩
theorem aJi:DO Go.Proofs.Tryz.prog 183 (.prim false (gH 5)):=⟨rfl,qE nT (zero:=[.int .i64 0,.int .i64 0,.int .i64 0,.int .i64 0,.int .i64 0]) (by decide+kernel)⟩
theorem aJj:DO Go.Proofs.Tryz.prog 184 (.prim false (gH 1)):=⟨rfl,qE nT (zero:=[.bool false]) (by decide+kernel)⟩
theorem aJk:DO Go.Proofs.Tryz.prog 300 (.prim false G4):=⟨rfl,ZW Go.Proofs.Tryz.func300 (by kernel_rfl) (by kernel_rfl) (by kernel_rfl) (by kernel_rfl)⟩
theorem aJl:DO Go.Proofs.Tryz.prog 315 (.prim false (gH 1)):=⟨rfl,qE nT (zero:=[.int .i64 0]) (by decide+kernel)⟩
noncomputable def aUA:TT:= .node 150 (.node 84 (.node 52 (.node 29 (.node 19 (.node 15 (.node 9 (.leaf 4 (.code x4)) (.node 14 (.leaf 9 (.code x9)) (.leaf 14 (.code x14)))) (.node 17 (.node 16 (.leaf 15 (.code x15)) (.leaf 16 (.code x16))) (.node 18 (.leaf 17 (.code x17)) (.leaf 18 (.code x18))))) (.node 22 (.node 20 (.leaf 19 (.code x19)) (.node 21 (.leaf 20 (.code x20)) (.leaf 21 (.code x21)))) (.node 24 (.node 23 (.leaf 22 (.code x22)) (.leaf 23 (.code x23))) (.node 27 (.leaf 24 (.code x24)) (.leaf 27 (.code x27)))))) (.node 42 (.node 33 (.node 31 (.leaf 29 (.code x29)) (.node 32 (.leaf 31 (.code x31)) (.leaf 32 (.code x32)))) (.node 40 (.node 36 (.leaf 33 (.code x33)) (.leaf 36 (.code x36))) (.node 41 (.leaf 40 (.code x40)) (.leaf 41 (.code x41))))) (.node 46 (.node 44 (.leaf 42 (.code x42)) (.node 45 (.leaf 44 (.code x44)) (.leaf 45 (.code x45)))) (.node 49 (.node 47 (.leaf 46 (.code x46)) (.leaf 47 (.code x47))) (.node 50 (.leaf 49 (.code x49)) (.leaf 50 (.code x50))))))) (.node 69 (.node 62 (.node 58 (.node 54 (.leaf 52 (.code x52)) (.node 57 (.leaf 54 (.code x54)) (.leaf 57 (.code x57)))) (.node 60 (.node 59 (.leaf 58 (.code x58)) (.leaf 59 (.code x59))) (.node 61 (.leaf 60 (.code x60)) (.leaf 61 (.code x61))))) (.node 65 (.node 63 (.leaf 62 (.code x62)) (.node 64 (.leaf 63 (.code x63)) (.leaf 64 (.code x64)))) (.node 67 (.node 66 (.leaf 65 (.code x65)) (.leaf 66 (.code x66))) (.node 68 (.leaf 67 (.prim false (gH 1))) (.leaf 68 (.code x68)))))) (.node 76 (.node 72 (.node 70 (.leaf 69 (.code x69)) (.node 71 (.leaf 70 (.shp (TX Z9))) (.leaf 71 (.code x71)))) (.node 74 (.node 73 (.leaf 72 (.code x72)) (.leaf 73 (.code x73))) (.node 75 (.leaf 74 (.code x74)) (.leaf 75 (.code x75))))) (.node 80 (.node 78 (.node 77 (.leaf 76 (.code x76)) (.leaf 77 (.code x77))) (.node 79 (.leaf 78 (.code x78)) (.leaf 79 (.code x79)))) (.node 82 (.node 81 (.leaf 80 (.code x80)) (.leaf 81 (.code x81))) (.node 83 (.leaf 82 (.code x82)) (.leaf 83 (.code x83)))))))) (.node 119 (.node 102 (.node 91 (.node 87 (.node 85 (.leaf 84 (.code x84)) (.node 86 (.leaf 85 (.code x85)) (.leaf 86 (.code x86)))) (.node 89 (.node 88 (.leaf 87 (.code x87)) (.leaf 88 (.code x88))) (.node 90 (.leaf 89 (.code x89)) (.leaf 90 (.code x90))))) (.node 95 (.node 92 (.leaf 91 (.code x91)) (.node 94 (.leaf 92 (.code x92)) (.leaf 94 (.code x94)))) (.node 97 (.node 96 (.leaf 95 (.code x95)) (.leaf 96 (.code x96))) (.node 98 (.leaf 97 (.code x97)) (.leaf 98 (.code x98)))))) (.node 109 (.node 105 (.node 103 (.leaf 102 (.code aPu)) (.node 104 (.leaf 103 (.code aPv)) (.leaf 104 (.code aPw)))) (.node 107 (.node 106 (.leaf 105 (.code aPx)) (.leaf 106 (.code aPy))) (.node 108 (.leaf 107 (.code aPz)) (.leaf 108 (.code aPA))))) (.node 113 (.node 110 (.leaf 109 (.code aPB)) (.node 112 (.leaf 110 (.code aPC)) (.leaf 112 (.code aPD)))) (.node 115 (.node 114 (.leaf 113 (.code aPE)) (.leaf 114 (.code aPF))) (.node 116 (.leaf 115 (.code aPG)) (.leaf 116 (.code aGV))))))) (.node 133 (.node 126 (.node 122 (.node 120 (.leaf 119 (.code aPH)) (.node 121 (.leaf 120 (.code aPI)) (.leaf 121 (.code aPJ)))) (.node 124 (.node 123 (.leaf 122 (.code aPK)) (.leaf 123 (.code aPL))) (.node 125 (.leaf 124 (.prim false (gH 3))) (.leaf 125 (.code aPM))))) (.node 129 (.node 127 (.leaf 126 (.code aPN)) (.node 128 (.leaf 127 (.code aPO)) (.leaf 128 (.code aPP)))) (.node 131 (.node 130 (.leaf 129 (.code aPQ)) (.leaf 130 (.code aPR))) (.node 132 (.leaf 131 (.code aEU)) (.leaf 132 (.code aDh)))))) (.node 142 (.node 138 (.node 134 (.leaf 133 (.code aPS)) (.node 137 (.leaf 134 (.code XG)) (.leaf 137 (.code aHc)))) (.node 140 (.node 139 (.leaf 138 (.code aPT)) (.leaf 139 (.code aPU))) (.node 141 (.leaf 140 (.code aPV)) (.leaf 141 (.code aPW))))) (.node 146 (.node 144 (.node 143 (.leaf 142 (.code aPX)) (.leaf 143 (.code aPY))) (.node 145 (.leaf 144 (.code aPZ)) (.leaf 145 (.code aP0)))) (.node 148 (.node 147 (.leaf 146 (.code aP1)) (.leaf 147 (.code aP2))) (.node 149 (.leaf 148 (.code aP3)) (.leaf 149 (.code aP4))))))))) (.node 231 (.node 187 (.node 172 (.node 159 (.node 153 (.node 151 (.leaf 150 (.code aP5)) (.node 152 (.leaf 151 (.code aP6)) (.leaf 152 (.code aP7)))) (.node 155 (.node 154 (.leaf 153 (.code aP8)) (.leaf 154 (.code aP9))) (.node 156 (.leaf 155 (.code aQa)) (.leaf 156 (.code aQb))))) (.node 168 (.node 160 (.leaf 159 (.code aQc)) (.node 163 (.leaf 160 (.code aQd)) (.leaf 163 (.code aQe)))) (.node 170 (.node 169 (.leaf 168 (.code aQf)) (.leaf 169 (.code aQg))) (.node 171 (.leaf 170 (.code aQh)) (.leaf 171 (.code aQi)))))) (.node 180 (.node 176 (.node 174 (.leaf 172 (.code aQj)) (.node 175 (.leaf 174 (.code aQk)) (.leaf 175 (.code aQl)))) (.node 178 (.node 177 (.leaf 176 (.code aQm)) (.leaf 177 (.code aQn))) (.node 179 (.leaf 178 (.code aQo)) (.leaf 179 (.code aQp))))) (.node 183 (.node 181 (.leaf 180 (.code aQq)) (.node 182 (.leaf 181 (.prim false (gH 3))) (.leaf 182 (.prim false (gH 3))))) (.node 185 (.node 184 (.leaf 183 (.prim false (gH 5))) (.leaf 184 (.prim false (gH 1)))) (.node 186 (.leaf 185 (.code aQr)) (.leaf 186 (.code aQs))))))) (.node 213 (.node 195 (.node 191 (.node 189 (.leaf 187 (.code aQt)) (.node 190 (.leaf 189 (.code aQu)) (.leaf 190 (.code aQv)))) (.node 193 (.node 192 (.leaf 191 (.code aQw)) (.leaf 192 (.code aQx))) (.node 194 (.leaf 193 (.code aQy)) (.leaf 194 (.code aQz))))) (.node 198 (.node 196 (.leaf 195 (.code aQA)) (.node 197 (.leaf 196 (.code aQB)) (.leaf 197 (.code aQC)))) (.node 200 (.node 199 (.leaf 198 (.code aQD)) (.leaf 199 (.code aEV))) (.node 201 (.leaf 200 (.code aAt)) (.leaf 201 (.code aDi)))))) (.node 220 (.node 216 (.node 214 (.leaf 213 (.code aQE)) (.node 215 (.leaf 214 (.code aQF)) (.leaf 215 (.code aQG)))) (.node 218 (.node 217 (.leaf 216 (.code aQH)) (.leaf 217 (.code aQI))) (.node 219 (.leaf 218 (.code aQJ)) (.leaf 219 (.code aQK))))) (.node 225 (.node 222 (.node 221 (.leaf 220 (.code aQL)) (.leaf 221 (.code aQM))) (.node 223 (.leaf 222 (.code aQN)) (.leaf 223 (.code aQO)))) (.node 227 (.node 226 (.leaf 225 (.code aQP)) (.leaf 226 (.code aQQ))) (.node 229 (.leaf 227 (.code aQR)) (.leaf 229 (.code aQS)))))))) (.node 272 (.node 245 (.node 238 (.node 234 (.node 232 (.leaf 231 (.code aQT)) (.node 233 (.leaf 232 (.code aQU)) (.leaf 233 (.code aQV)))) (.node 236 (.node 235 (.leaf 234 (.code aQW)) (.leaf 235 (.code aQX))) (.node 237 (.leaf 236 (.code aQY)) (.leaf 237 (.code aQZ))))) (.node 241 (.node 239 (.leaf 238 (.code aQ0)) (.node 240 (.leaf 239 (.code aQ1)) (.leaf 240 (.code aQ2)))) (.node 243 (.node 242 (.leaf 241 (.code aQ3)) (.leaf 242 (.code aQ4))) (.node 244 (.leaf 243 (.code aQ5)) (.leaf 244 (.code aIu)))))) (.node 252 (.node 248 (.node 246 (.leaf 245 (.code aQ6)) (.node 247 (.leaf 246 (.code aIx)) (.leaf 247 (.code aQ7)))) (.node 250 (.node 249 (.leaf 248 (.code aQ8)) (.leaf 249 (.code aQ9))) (.node 251 (.leaf 250 (.code aRa)) (.leaf 251 (.code aID))))) (.node 260 (.node 253 (.leaf 252 (.code aRb)) (.node 254 (.leaf 253 (.code aRc)) (.leaf 254 (.code aRd)))) (.node 262 (.node 261 (.leaf 260 (.code aRe)) (.leaf 261 (.code aRf))) (.node 271 (.leaf 262 (.code aRg)) (.leaf 271 (.code aRh))))))) (.node 294 (.node 287 (.node 283 (.node 273 (.leaf 272 (.code aRi)) (.node 282 (.leaf 273 (.code aRj)) (.leaf 282 (.code aRk)))) (.node 285 (.node 284 (.leaf 283 (.code aRl)) (.leaf 284 (.code aRm))) (.node 286 (.leaf 285 (.code aRn)) (.leaf 286 (.code aDj))))) (.node 290 (.node 288 (.leaf 287 (.code aRo)) (.node 289 (.leaf 288 (.code aRp)) (.leaf 289 (.code aRq)))) (.node 292 (.node 291 (.leaf 290 (.code aRr)) (.leaf 291 (.code aRs))) (.node 293 (.leaf 292 (.code aRt)) (.leaf 293 (.code aRu)))))) (.node 308 (.node 304 (.node 296 (.leaf 294 (.code aRv)) (.node 300 (.leaf 296 (.code aRw)) (.leaf 300 (.prim false G4)))) (.node 306 (.node 305 (.leaf 304 (.code aEW)) (.leaf 305 (.code aRx))) (.node 307 (.leaf 306 (.code aRy)) (.leaf 307 (.code aRz))))) (.node 312 (.node 310 (.node 309 (.leaf 308 (.code aRA)) (.leaf 309 (.code aI7))) (.node 311 (.leaf 310 (.code aRB)) (.leaf 311 (.code aJa)))) (.node 316 (.node 315 (.leaf 312 (.code aRC)) (.leaf 315 (.prim false (gH 1)))) (.node 317 (.leaf 316 (.code aRD)) (.leaf 317 (.code aRE)))))))))
theorem aBL:aUA.All (DO Go.Proofs.Tryz.prog):=⟨⟨⟨⟨⟨⟨⟨aUy,⟨aUz,aOp⟩⟩,⟨⟨aOq,aOr⟩,⟨aOs,aOt⟩⟩⟩,⟨⟨aOu,⟨aOv,aOw⟩⟩,⟨⟨aOx,aOy⟩,⟨aOz,aOA⟩⟩⟩⟩,⟨⟨⟨aOB,⟨aOC,aOD⟩⟩,⟨⟨aOE,aOF⟩,⟨aOG,aOH⟩⟩⟩,⟨⟨aOI,⟨aOJ,aOK⟩⟩,⟨⟨aOL,aOM⟩,⟨aON,aOO⟩⟩⟩⟩⟩,⟨⟨⟨⟨aOP,⟨aOQ,aOR⟩⟩,⟨⟨aOS,aOT⟩,⟨aOU,aOV⟩⟩⟩,⟨⟨aOW,⟨aOX,aOY⟩⟩,⟨⟨aOZ,aO0⟩,⟨aRH,aO1⟩⟩⟩⟩,⟨⟨⟨aO2,⟨aRI,aO3⟩⟩,⟨⟨aO4,aO5⟩,⟨aO6,aO7⟩⟩⟩,⟨⟨⟨aO8,aO9⟩,⟨aPa,aPb⟩⟩,⟨⟨aPc,aPd⟩,⟨aPe,aPf⟩⟩⟩⟩⟩⟩,⟨⟨⟨⟨⟨aPg,⟨aPh,aPi⟩⟩,⟨⟨aPj,aPk⟩,⟨aPl,aPm⟩⟩⟩,⟨⟨aPn,⟨aPo,aPp⟩⟩,⟨⟨aPq,aPr⟩,⟨aPs,aPt⟩⟩⟩⟩,⟨⟨⟨aGI,⟨aGJ,aGK⟩⟩,⟨⟨aGL,aGM⟩,⟨aGN,aGO⟩⟩⟩,⟨⟨aGP,⟨aGQ,aGR⟩⟩,⟨⟨aGS,aGT⟩,⟨aGU,aGW⟩⟩⟩⟩⟩,⟨⟨⟨⟨aGX,⟨aGY,aGZ⟩⟩,⟨⟨aG0,aG1⟩,⟨aJf,aG2⟩⟩⟩,⟨⟨aG3,⟨aG4,aG5⟩⟩,⟨⟨aG6,aG7⟩,⟨aG8,aG9⟩⟩⟩⟩,⟨⟨⟨aHa,⟨aHb,aHd⟩⟩,⟨⟨aHe,aHf⟩,⟨aHg,aHh⟩⟩⟩,⟨⟨⟨aHi,aHj⟩,⟨aHk,aHl⟩⟩,⟨⟨aHm,aHn⟩,⟨aHo,aHp⟩⟩⟩⟩⟩⟩⟩,⟨⟨⟨⟨⟨⟨aHq,⟨aHr,aHs⟩⟩,⟨⟨aHt,aHu⟩,⟨aHv,aHw⟩⟩⟩,⟨⟨aHx,⟨aHy,aHz⟩⟩,⟨⟨aHA,aHB⟩,⟨aHC,aHD⟩⟩⟩⟩,⟨⟨⟨aHE,⟨aHF,aHG⟩⟩,⟨⟨aHH,aHI⟩,⟨aHJ,aHK⟩⟩⟩,⟨⟨aHL,⟨aJg,aJh⟩⟩,⟨⟨aJi,aJj⟩,⟨aHM,aHN⟩⟩⟩⟩⟩,⟨⟨⟨⟨aHO,⟨aHP,aHQ⟩⟩,⟨⟨aHR,aHS⟩,⟨aHT,aHU⟩⟩⟩,⟨⟨aHV,⟨aHW,aHX⟩⟩,⟨⟨aHY,aHZ⟩,⟨aH0,aH1⟩⟩⟩⟩,⟨⟨⟨aH2,⟨aH3,aH4⟩⟩,⟨⟨aH5,aH6⟩,⟨aH7,aH8⟩⟩⟩,⟨⟨⟨aH9,aIa⟩,⟨aIb,aIc⟩⟩,⟨⟨aId,aIe⟩,⟨aIf,aIg⟩⟩⟩⟩⟩⟩,⟨⟨⟨⟨⟨aIh,⟨aIi,aIj⟩⟩,⟨⟨aIk,aIl⟩,⟨aIm,aIn⟩⟩⟩,⟨⟨aIo,⟨aIp,aIq⟩⟩,⟨⟨aIr,aIs⟩,⟨aIt,aIv⟩⟩⟩⟩,⟨⟨⟨aIw,⟨aIy,aIz⟩⟩,⟨⟨aIA,aIB⟩,⟨aIC,aIE⟩⟩⟩,⟨⟨aIF,⟨aIG,aIH⟩⟩,⟨⟨aII,aIJ⟩,⟨aIK,aIL⟩⟩⟩⟩⟩,⟨⟨⟨⟨aIM,⟨aIN,aIO⟩⟩,⟨⟨aIP,aIQ⟩,⟨aIR,aIS⟩⟩⟩,⟨⟨aIT,⟨aIU,aIV⟩⟩,⟨⟨aIW,aIX⟩,⟨aIY,aIZ⟩⟩⟩⟩,⟨⟨⟨aI0,⟨aI1,aJk⟩⟩,⟨⟨aI2,aI3⟩,⟨aI4,aI5⟩⟩⟩,⟨⟨⟨aI6,aI8⟩,⟨aI9,aJb⟩⟩,⟨⟨aJc,aJl⟩,⟨aJd,aJe⟩⟩⟩⟩⟩⟩⟩⟩
noncomputable def tab:qD:=aUA.get
theorem aNX:tab 4=some (.code x4):=rfl
theorem aUB:tab 9=some (.code x9):=rfl
theorem aRJ:tab 14=some (.code x14):=rfl
theorem aRK:tab 15=some (.code x15):=rfl
theorem aRL:tab 16=some (.code x16):=rfl
theorem aRM:tab 17=some (.code x17):=rfl
theorem aRN:tab 18=some (.code x18):=rfl
theorem aRO:tab 19=some (.code x19):=rfl
theorem aRP:tab 20=some (.code x20):=rfl
theorem aRQ:tab 21=some (.code x21):=rfl
theorem aRR:tab 22=some (.code x22):=rfl
theorem aRS:tab 23=some (.code x23):=rfl
theorem aRT:tab 24=some (.code x24):=rfl
theorem aRU:tab 27=some (.code x27):=rfl
theorem aRV:tab 29=some (.code x29):=rfl
theorem aRW:tab 31=some (.code x31):=rfl
theorem aRX:tab 32=some (.code x32):=rfl
theorem aRY:tab 33=some (.code x33):=rfl
theorem aRZ:tab 36=some (.code x36):=rfl
theorem aR0:tab 40=some (.code x40):=rfl
theorem aR1:tab 41=some (.code x41):=rfl
theorem aR2:tab 42=some (.code x42):=rfl
theorem aR3:tab 44=some (.code x44):=rfl
theorem aR4:tab 45=some (.code x45):=rfl
theorem aR5:tab 46=some (.code x46):=rfl
theorem aEY:tab 47=some (.code x47):=rfl
theorem aR6:tab 49=some (.code x49):=rfl
theorem aR7:tab 50=some (.code x50):=rfl
theorem aR8:tab 52=some (.code x52):=rfl
theorem aR9:tab 54=some (.code x54):=rfl
theorem aSa:tab 57=some (.code x57):=rfl
theorem aSb:tab 58=some (.code x58):=rfl
theorem aSc:tab 59=some (.code x59):=rfl
theorem aSd:tab 60=some (.code x60):=rfl
theorem aSe:tab 61=some (.code x61):=rfl
theorem aSf:tab 62=some (.code x62):=rfl
theorem aSg:tab 63=some (.code x63):=rfl
theorem aSh:tab 64=some (.code x64):=rfl
theorem aSi:tab 65=some (.code x65):=rfl
theorem aSj:tab 66=some (.code x66):=rfl
theorem aSk:tab 67=some (.prim false (gH 1)):=rfl
theorem aSl:tab 68=some (.code x68):=rfl
theorem aSm:tab 69=some (.code x69):=rfl
theorem aSn:tab 70=some (.shp (TX Z9)):=rfl
theorem aSo:tab 71=some (.code x71):=rfl
theorem aSp:tab 72=some (.code x72):=rfl
theorem aSq:tab 73=some (.code x73):=rfl
theorem aSr:tab 74=some (.code x74):=rfl
theorem aSs:tab 75=some (.code x75):=rfl
theorem aSt:tab 76=some (.code x76):=rfl
theorem aSu:tab 77=some (.code x77):=rfl
theorem aSv:tab 78=some (.code x78):=rfl
theorem aSw:tab 79=some (.code x79):=rfl
theorem aSx:tab 80=some (.code x80):=rfl
theorem aSy:tab 81=some (.code x81):=rfl
theorem aSz:tab 82=some (.code x82):=rfl
theorem aSA:tab 83=some (.code x83):=rfl
theorem aSB:tab 84=some (.code x84):=rfl
theorem aSC:tab 85=some (.code x85):=rfl
theorem aSD:tab 86=some (.code x86):=rfl
theorem aSE:tab 87=some (.code x87):=rfl
theorem aSF:tab 88=some (.code x88):=rfl
theorem aSG:tab 89=some (.code x89):=rfl
theorem aSH:tab 90=some (.code x90):=rfl
theorem aEZ:tab 91=some (.code x91):=rfl
theorem aSI:tab 92=some (.code x92):=rfl
theorem aSJ:tab 94=some (.code x94):=rfl
theorem aSK:tab 95=some (.code x95):=rfl
theorem aSL:tab 96=some (.code x96):=rfl
theorem aSM:tab 97=some (.code x97):=rfl
theorem aSN:tab 98=some (.code x98):=rfl
theorem aJm:tab 102=some (.code aPu):=rfl
theorem aBM:tab 103=some (.code aPv):=rfl
theorem aBN:tab 104=some (.code aPw):=rfl
theorem aJn:tab 105=some (.code aPx):=rfl
theorem aJo:tab 106=some (.code aPy):=rfl
theorem aJp:tab 107=some (.code aPz):=rfl
theorem aJq:tab 108=some (.code aPA):=rfl
theorem aJr:tab 109=some (.code aPB):=rfl
theorem aJs:tab 110=some (.code aPC):=rfl
theorem aJt:tab 112=some (.code aPD):=rfl
theorem aJu:tab 113=some (.code aPE):=rfl
theorem aBO:tab 114=some (.code aPF):=rfl
theorem aJv:tab 115=some (.code aPG):=rfl
theorem aBP:tab 116=some (.code aGV):=rfl
theorem aJw:tab 119=some (.code aPH):=rfl
theorem aJx:tab 120=some (.code aPI):=rfl
theorem aJy:tab 121=some (.code aPJ):=rfl
theorem aJz:tab 122=some (.code aPK):=rfl
theorem aJA:tab 123=some (.code aPL):=rfl
theorem aJB:tab 124=some (.prim false (gH 3)):=rfl
theorem aBQ:tab 125=some (.code aPM):=rfl
theorem aJC:tab 126=some (.code aPN):=rfl
theorem aJD:tab 127=some (.code aPO):=rfl
theorem aJE:tab 128=some (.code aPP):=rfl
theorem aJF:tab 129=some (.code aPQ):=rfl
theorem aJG:tab 130=some (.code aPR):=rfl
theorem aBR:tab 131=some (.code aEU):=rfl
theorem T9:tab 132=some (.code aDh):=rfl
theorem aJH:tab 133=some (.code aPS):=rfl
theorem JC:tab 134=some (.code XG):=rfl
theorem aBS:tab 137=some (.code aHc):=rfl
theorem aJI:tab 138=some (.code aPT):=rfl
theorem UA:tab 139=some (.code aPU):=rfl
theorem aJJ:tab 140=some (.code aPV):=rfl
theorem aJK:tab 141=some (.code aPW):=rfl
theorem aJL:tab 142=some (.code aPX):=rfl
theorem aJM:tab 143=some (.code aPY):=rfl
theorem aJN:tab 144=some (.code aPZ):=rfl
theorem aJO:tab 145=some (.code aP0):=rfl
theorem aJP:tab 146=some (.code aP1):=rfl
theorem aJQ:tab 147=some (.code aP2):=rfl
theorem UB:tab 148=some (.code aP3):=rfl
theorem aJR:tab 149=some (.code aP4):=rfl
theorem aBT:tab 150=some (.code aP5):=rfl
theorem UC:tab 151=some (.code aP6):=rfl
theorem aJS:tab 152=some (.code aP7):=rfl
theorem aJT:tab 153=some (.code aP8):=rfl
theorem aJU:tab 154=some (.code aP9):=rfl
theorem aJV:tab 155=some (.code aQa):=rfl
theorem aJW:tab 156=some (.code aQb):=rfl
theorem aJX:tab 159=some (.code aQc):=rfl
theorem aJY:tab 160=some (.code aQd):=rfl
theorem aJZ:tab 163=some (.code aQe):=rfl
theorem aJ0:tab 168=some (.code aQf):=rfl
theorem aBU:tab 169=some (.code aQg):=rfl
theorem aJ1:tab 170=some (.code aQh):=rfl
theorem aJ2:tab 171=some (.code aQi):=rfl
theorem aJ3:tab 172=some (.code aQj):=rfl
theorem aJ4:tab 174=some (.code aQk):=rfl
theorem aJ5:tab 175=some (.code aQl):=rfl
theorem aJ6:tab 176=some (.code aQm):=rfl
theorem aJ7:tab 177=some (.code aQn):=rfl
theorem aJ8:tab 178=some (.code aQo):=rfl
theorem aJ9:tab 179=some (.code aQp):=rfl
theorem aBV:tab 180=some (.code aQq):=rfl
theorem aKa:tab 181=some (.prim false (gH 3)):=rfl
theorem aKb:tab 182=some (.prim false (gH 3)):=rfl
theorem aKc:tab 183=some (.prim false (gH 5)):=rfl
theorem aKd:tab 184=some (.prim false (gH 1)):=rfl
theorem aKe:tab 185=some (.code aQr):=rfl
theorem aKf:tab 186=some (.code aQs):=rfl
theorem aKg:tab 187=some (.code aQt):=rfl
theorem aKh:tab 189=some (.code aQu):=rfl
theorem aKi:tab 190=some (.code aQv):=rfl
theorem aKj:tab 191=some (.code aQw):=rfl
theorem aKk:tab 192=some (.code aQx):=rfl
theorem aKl:tab 193=some (.code aQy):=rfl
theorem aKm:tab 194=some (.code aQz):=rfl
theorem aKn:tab 195=some (.code aQA):=rfl
theorem aKo:tab 196=some (.code aQB):=rfl
theorem aKp:tab 197=some (.code aQC):=rfl
theorem aKq:tab 198=some (.code aQD):=rfl
theorem aBW:tab 199=some (.code aEV):=rfl
theorem MY:tab 200=some (.code aAt):=rfl
theorem UD:tab 201=some (.code aDi):=rfl
theorem aKr:tab 213=some (.code aQE):=rfl
theorem UE:tab 214=some (.code aQF):=rfl
theorem aKs:tab 215=some (.code aQG):=rfl
theorem aKt:tab 216=some (.code aQH):=rfl
theorem aKu:tab 217=some (.code aQI):=rfl
theorem aKv:tab 218=some (.code aQJ):=rfl
theorem aKw:tab 219=some (.code aQK):=rfl
theorem aKx:tab 220=some (.code aQL):=rfl
theorem aKy:tab 221=some (.code aQM):=rfl
theorem aKz:tab 222=some (.code aQN):=rfl
theorem aKA:tab 223=some (.code aQO):=rfl
theorem aKB:tab 225=some (.code aQP):=rfl
theorem aKC:tab 226=some (.code aQQ):=rfl
theorem aKD:tab 227=some (.code aQR):=rfl
theorem aKE:tab 229=some (.code aQS):=rfl
theorem aKF:tab 231=some (.code aQT):=rfl
theorem aKG:tab 232=some (.code aQU):=rfl
theorem aKH:tab 233=some (.code aQV):=rfl
theorem aKI:tab 234=some (.code aQW):=rfl
theorem aKJ:tab 235=some (.code aQX):=rfl
theorem aKK:tab 236=some (.code aQY):=rfl
theorem aKL:tab 237=some (.code aQZ):=rfl
theorem aKM:tab 238=some (.code aQ0):=rfl
theorem aKN:tab 239=some (.code aQ1):=rfl
theorem aKO:tab 240=some (.code aQ2):=rfl
theorem aKP:tab 241=some (.code aQ3):=rfl
theorem aKQ:tab 242=some (.code aQ4):=rfl
theorem aKR:tab 243=some (.code aQ5):=rfl
theorem aBX:tab 244=some (.code aIu):=rfl
theorem aKS:tab 245=some (.code aQ6):=rfl
theorem aKT:tab 246=some (.code aIx):=rfl
theorem aKU:tab 247=some (.code aQ7):=rfl
theorem aKV:tab 248=some (.code aQ8):=rfl
theorem aKW:tab 249=some (.code aQ9):=rfl
theorem aKX:tab 250=some (.code aRa):=rfl
theorem aKY:tab 251=some (.code aID):=rfl
theorem aKZ:tab 252=some (.code aRb):=rfl
theorem UF:tab 253=some (.code aRc):=rfl
theorem aK0:tab 254=some (.code aRd):=rfl
theorem aK1:tab 260=some (.code aRe):=rfl
theorem aK2:tab 261=some (.code aRf):=rfl
theorem aK3:tab 262=some (.code aRg):=rfl
theorem aK4:tab 271=some (.code aRh):=rfl
theorem aK5:tab 272=some (.code aRi):=rfl
theorem aK6:tab 273=some (.code aRj):=rfl
theorem aK7:tab 282=some (.code aRk):=rfl
theorem aK8:tab 283=some (.code aRl):=rfl
theorem aK9:tab 284=some (.code aRm):=rfl
theorem aLa:tab 285=some (.code aRn):=rfl
theorem UG:tab 286=some (.code aDj):=rfl
theorem aBY:tab 287=some (.code aRo):=rfl
theorem aLb:tab 288=some (.code aRp):=rfl
theorem aLc:tab 289=some (.code aRq):=rfl
theorem aLd:tab 290=some (.code aRr):=rfl
theorem aLe:tab 291=some (.code aRs):=rfl
theorem aLf:tab 292=some (.code aRt):=rfl
theorem aLg:tab 293=some (.code aRu):=rfl
theorem aLh:tab 294=some (.code aRv):=rfl
theorem aLi:tab 296=some (.code aRw):=rfl
theorem aLj:tab 300=some (.prim false G4):=rfl
theorem aBZ:tab 304=some (.code aEW):=rfl
theorem aLk:tab 305=some (.code aRx):=rfl
theorem aB0:tab 306=some (.code aRy):=rfl
theorem aLl:tab 307=some (.code aRz):=rfl
theorem aLm:tab 308=some (.code aRA):=rfl
theorem aB1:tab 309=some (.code aI7):=rfl
theorem aLn:tab 310=some (.code aRB):=rfl
theorem aB2:tab 311=some (.code aJa):=rfl
theorem aLo:tab 312=some (.code aRC):=rfl
theorem aLp:tab 315=some (.prim false (gH 1)):=rfl
theorem aLq:tab 316=some (.code aRD):=rfl
theorem aLr:tab 317=some (.code aRE):=rfl
end Go.Proofs.YtlnclppkepgdmaaGreat
