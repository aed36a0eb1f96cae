/- The table of the seat's functions. Printed by a program. -/
import Derived.Test.YtlnclppkepgdmaaGreatDQX1
import Derived.Test.YtlnclppkepgdmaaGreatDQX2
import Derived.Test.YtlnclppkepgdmaaGreatDQIO
import Derived.Test.YtlnclppkepgdmaaGreatChecked
set_option maxRecDepth 100000
namespace Go.Proofs.YtlnclppkepgdmaaGreat
open Go.Vm
theorem oQ:Go.Proofs.Tryz.prog.follows .mixedOrders=true:=Go.Proofs.Tryz.checked.mixed
theorem aTe:EI Go.Proofs.Tryz.prog 67 (.prim false (gL 1)):=⟨rfl,qU oQ (zero:=[.int .i64 0]) (by decide+kernel)⟩
theorem aTf:EI Go.Proofs.Tryz.prog 70 (.shp (U5 aAX)):=aTd
theorem aKy:EI Go.Proofs.Tryz.prog 124 (.prim false (gL 3)):=⟨rfl,qU oQ (zero:=[.int .i64 0,.int .i64 0,.int .i64 0]) (by decide+kernel)⟩
theorem aKz:EI Go.Proofs.Tryz.prog 181 (.prim false (gL 3)):=⟨rfl,qU oQ (zero:=[.int .i64 0,.int .i64 0,.int .i64 0]) (by decide+kernel)⟩
theorem aKA:EI Go.Proofs.Tryz.prog 182 (.prim false (gL 3)):=⟨rfl,qU oQ (zero:=[.int .i64 0,.int .i64 0,.int .i64 0]) (by decide+kernel)⟩
theorem aKB:EI Go.Proofs.Tryz.prog 183 (.prim false (gL 5)):=⟨rfl,qU oQ (zero:=[.int .i64 0,.int .i64 0,.int .i64 0,.int .i64 0,.int .i64 0]) (by decide+kernel)⟩
theorem aKC:EI Go.Proofs.Tryz.prog 184 (.prim false (gL 1)):=⟨rfl,qU oQ (zero:=[.bool false]) (by decide+kernel)⟩
theorem aKD:EI Go.Proofs.Tryz.prog 300 (.prim false IC):=⟨rfl,aAK Go.Proofs.Tryz.func300 (by kernel_rfl) (by kernel_rfl) (by kernel_rfl) (by kernel_rfl)⟩
theorem aKE:EI Go.Proofs.Tryz.prog 315 (.prim false (gL 1)):=⟨rfl,qU oQ (zero:=[.int .i64 0]) (by decide+kernel)⟩
noncomputable def aVU:TT:= .node 160 (.node 90 (.node 58 (.node 32 (.node 25 (.node 17 (.node 12 (.leaf 6 (.code x6)) (.node 15 (.leaf 12 (.code x12)) (.leaf 15 (.code x15)))) (.node 23 (.node 21 (.leaf 17 (.code x17)) (.leaf 21 (.code x21))) (.node 24 (.leaf 23 (.code x23)) (.leaf 24 (.code x24))))) (.node 28 (.node 26 (.leaf 25 (.code x25)) (.node 27 (.leaf 26 (.code x26)) (.leaf 27 (.code x27)))) (.node 30 (.node 29 (.leaf 28 (.code x28)) (.leaf 29 (.code x29))) (.node 31 (.leaf 30 (.code x30)) (.leaf 31 (.code x31)))))) (.node 44 (.node 36 (.node 33 (.leaf 32 (.code x32)) (.node 34 (.leaf 33 (.code x33)) (.leaf 34 (.code x34)))) (.node 41 (.node 40 (.leaf 36 (.code x36)) (.leaf 40 (.code x40))) (.node 42 (.leaf 41 (.code x41)) (.leaf 42 (.code x42))))) (.node 51 (.node 49 (.node 47 (.leaf 44 (.code x44)) (.leaf 47 (.code x47))) (.node 50 (.leaf 49 (.code x49)) (.leaf 50 (.code x50)))) (.node 53 (.node 52 (.leaf 51 (.code x51)) (.leaf 52 (.code x52))) (.node 54 (.leaf 53 (.code x53)) (.leaf 54 (.code x54))))))) (.node 75 (.node 67 (.node 62 (.node 59 (.leaf 58 (.code x58)) (.node 60 (.leaf 59 (.code x59)) (.leaf 60 (.code x60)))) (.node 65 (.node 63 (.leaf 62 (.code x62)) (.leaf 63 (.code x63))) (.node 66 (.leaf 65 (.code x65)) (.leaf 66 (.code x66))))) (.node 71 (.node 69 (.node 68 (.leaf 67 (.prim false (gL 1))) (.leaf 68 (.code x68))) (.node 70 (.leaf 69 (.code x69)) (.leaf 70 (.shp (U5 aAX))))) (.node 73 (.node 72 (.leaf 71 (.code x71)) (.leaf 72 (.code x72))) (.node 74 (.leaf 73 (.code x73)) (.leaf 74 (.code x74)))))) (.node 82 (.node 78 (.node 76 (.leaf 75 (.code x75)) (.node 77 (.leaf 76 (.code x76)) (.leaf 77 (.code x77)))) (.node 80 (.node 79 (.leaf 78 (.code x78)) (.leaf 79 (.code x79))) (.node 81 (.leaf 80 (.code x80)) (.leaf 81 (.code x81))))) (.node 86 (.node 84 (.node 83 (.leaf 82 (.code x82)) (.leaf 83 (.code x83))) (.node 85 (.leaf 84 (.code x84)) (.leaf 85 (.code x85)))) (.node 88 (.node 87 (.leaf 86 (.code x86)) (.leaf 87 (.code x87))) (.node 89 (.leaf 88 (.code x88)) (.leaf 89 (.code x89)))))))) (.node 129 (.node 109 (.node 97 (.node 93 (.node 91 (.leaf 90 (.code x90)) (.node 92 (.leaf 91 (.code x91)) (.leaf 92 (.code x92)))) (.node 95 (.node 94 (.leaf 93 (.code x93)) (.leaf 94 (.code x94))) (.node 96 (.leaf 95 (.code x95)) (.leaf 96 (.code x96))))) (.node 105 (.node 103 (.node 98 (.leaf 97 (.code x97)) (.leaf 98 (.code x98))) (.node 104 (.leaf 103 (.code aQO)) (.leaf 104 (.code aQP)))) (.node 107 (.node 106 (.leaf 105 (.code aQQ)) (.leaf 106 (.code aQR))) (.node 108 (.leaf 107 (.code aQS)) (.leaf 108 (.code aQT)))))) (.node 116 (.node 112 (.node 110 (.leaf 109 (.code aQU)) (.node 111 (.leaf 110 (.code aQV)) (.leaf 111 (.code aQW)))) (.node 114 (.node 113 (.leaf 112 (.code aQX)) (.leaf 113 (.code aQY))) (.node 115 (.leaf 114 (.code aQZ)) (.leaf 115 (.code aQ0))))) (.node 124 (.node 122 (.node 119 (.leaf 116 (.code aH0)) (.leaf 119 (.code aQ1))) (.node 123 (.leaf 122 (.code aQ2)) (.leaf 123 (.code aQ3)))) (.node 126 (.node 125 (.leaf 124 (.prim false (gL 3))) (.leaf 125 (.code aQ4))) (.node 128 (.leaf 126 (.code aQ5)) (.leaf 128 (.code aQ6))))))) (.node 145 (.node 137 (.node 132 (.node 130 (.leaf 129 (.code aQ7)) (.node 131 (.leaf 130 (.code aQ8)) (.leaf 131 (.code aFL)))) (.node 134 (.node 133 (.leaf 132 (.code aD3)) (.leaf 133 (.code aQ9))) (.node 136 (.leaf 134 (.code YP)) (.leaf 136 (.code aRa))))) (.node 141 (.node 139 (.node 138 (.leaf 137 (.code aIf)) (.leaf 138 (.code aRb))) (.node 140 (.leaf 139 (.code aRc)) (.leaf 140 (.code aRd)))) (.node 143 (.node 142 (.leaf 141 (.code aRe)) (.leaf 142 (.code aRf))) (.node 144 (.leaf 143 (.code aRg)) (.leaf 144 (.code aRh)))))) (.node 152 (.node 148 (.node 146 (.leaf 145 (.code aRi)) (.node 147 (.leaf 146 (.code aRj)) (.leaf 147 (.code aRk)))) (.node 150 (.node 149 (.leaf 148 (.code aRl)) (.leaf 149 (.code aRm))) (.node 151 (.leaf 150 (.code aRn)) (.leaf 151 (.code aRo))))) (.node 156 (.node 154 (.node 153 (.leaf 152 (.code aRp)) (.leaf 153 (.code aRq))) (.node 155 (.leaf 154 (.code aRr)) (.leaf 155 (.code aRs)))) (.node 158 (.node 157 (.leaf 156 (.code aRt)) (.leaf 157 (.code aRu))) (.node 159 (.leaf 158 (.code aFM)) (.leaf 159 (.code aRv))))))))) (.node 241 (.node 200 (.node 182 (.node 174 (.node 170 (.node 163 (.leaf 160 (.code aRw)) (.node 169 (.leaf 163 (.code aRx)) (.leaf 169 (.code aRy)))) (.node 172 (.node 171 (.leaf 170 (.code aRz)) (.leaf 171 (.code aRA))) (.node 173 (.leaf 172 (.code aRB)) (.leaf 173 (.code aRC))))) (.node 178 (.node 176 (.node 175 (.leaf 174 (.code aRD)) (.leaf 175 (.code aRE))) (.node 177 (.leaf 176 (.code aRF)) (.leaf 177 (.code aRG)))) (.node 180 (.node 179 (.leaf 178 (.code aRH)) (.leaf 179 (.code aRI))) (.node 181 (.leaf 180 (.code aRJ)) (.leaf 181 (.prim false (gL 3))))))) (.node 192 (.node 185 (.node 183 (.leaf 182 (.prim false (gL 3))) (.node 184 (.leaf 183 (.prim false (gL 5))) (.leaf 184 (.prim false (gL 1))))) (.node 187 (.node 186 (.leaf 185 (.code aRK)) (.leaf 186 (.code aRL))) (.node 191 (.leaf 187 (.code aRM)) (.leaf 191 (.code aRN))))) (.node 196 (.node 194 (.node 193 (.leaf 192 (.code aRO)) (.leaf 193 (.code aRP))) (.node 195 (.leaf 194 (.code aRQ)) (.leaf 195 (.code aRR)))) (.node 198 (.node 197 (.leaf 196 (.code aRS)) (.leaf 197 (.code aRT))) (.node 199 (.leaf 198 (.code aRU)) (.leaf 199 (.code aFN))))))) (.node 224 (.node 216 (.node 212 (.node 201 (.leaf 200 (.code aBh)) (.node 211 (.leaf 201 (.code aD4)) (.leaf 211 (.code aRV)))) (.node 214 (.node 213 (.leaf 212 (.code aRW)) (.leaf 213 (.code aRX))) (.node 215 (.leaf 214 (.code aRY)) (.leaf 215 (.code aRZ))))) (.node 220 (.node 218 (.node 217 (.leaf 216 (.code aR0)) (.leaf 217 (.code aR1))) (.node 219 (.leaf 218 (.code aR2)) (.leaf 219 (.code aR3)))) (.node 222 (.node 221 (.leaf 220 (.code aR4)) (.leaf 221 (.code aR5))) (.node 223 (.leaf 222 (.code aR6)) (.leaf 223 (.code aR7)))))) (.node 233 (.node 227 (.node 225 (.leaf 224 (.code aR8)) (.node 226 (.leaf 225 (.code aR9)) (.leaf 226 (.code aSa)))) (.node 231 (.node 229 (.leaf 227 (.code aSb)) (.leaf 229 (.code aSc))) (.node 232 (.leaf 231 (.code aSd)) (.leaf 232 (.code aSe))))) (.node 237 (.node 235 (.node 234 (.leaf 233 (.code aSf)) (.leaf 234 (.code aSg))) (.node 236 (.leaf 235 (.code aSh)) (.leaf 236 (.code aSi)))) (.node 239 (.node 238 (.leaf 237 (.code aSj)) (.leaf 238 (.code aSk))) (.node 240 (.leaf 239 (.code aSl)) (.leaf 240 (.code aSm)))))))) (.node 283 (.node 260 (.node 249 (.node 244 (.node 242 (.leaf 241 (.code aSn)) (.node 243 (.leaf 242 (.code aSo)) (.leaf 243 (.code aSp)))) (.node 246 (.node 245 (.leaf 244 (.code aJA)) (.leaf 245 (.code aSq))) (.node 247 (.leaf 246 (.code aJD)) (.leaf 247 (.code aSr))))) (.node 253 (.node 251 (.node 250 (.leaf 249 (.code aSs)) (.leaf 250 (.code aSt))) (.node 252 (.leaf 251 (.code aJI)) (.leaf 252 (.code aSu)))) (.node 256 (.node 254 (.leaf 253 (.code aSv)) (.leaf 254 (.code aSw))) (.node 257 (.leaf 256 (.code aSx)) (.leaf 257 (.code aSy)))))) (.node 267 (.node 263 (.node 261 (.leaf 260 (.code aSz)) (.node 262 (.leaf 261 (.code aSA)) (.leaf 262 (.code aSB)))) (.node 265 (.node 264 (.leaf 263 (.code aSC)) (.leaf 264 (.code aSD))) (.node 266 (.leaf 265 (.code aSE)) (.leaf 266 (.code aSF))))) (.node 271 (.node 269 (.node 268 (.leaf 267 (.code aSG)) (.leaf 268 (.code aSH))) (.node 270 (.leaf 269 (.code aSI)) (.leaf 270 (.code aSJ)))) (.node 273 (.node 272 (.leaf 271 (.code aSK)) (.leaf 272 (.code aSL))) (.node 282 (.leaf 273 (.code aSM)) (.leaf 282 (.code aSN))))))) (.node 299 (.node 290 (.node 286 (.node 284 (.leaf 283 (.code aSO)) (.node 285 (.leaf 284 (.code aSP)) (.leaf 285 (.code aSQ)))) (.node 288 (.node 287 (.leaf 286 (.code aD5)) (.leaf 287 (.code aSR))) (.node 289 (.leaf 288 (.code aSS)) (.leaf 289 (.code aST))))) (.node 294 (.node 292 (.node 291 (.leaf 290 (.code aSU)) (.leaf 291 (.code aSV))) (.node 293 (.leaf 292 (.code aSW)) (.leaf 293 (.code aSX)))) (.node 297 (.node 296 (.leaf 294 (.code aSY)) (.leaf 296 (.code aSZ))) (.node 298 (.leaf 297 (.code aS0)) (.leaf 298 (.code aS1)))))) (.node 309 (.node 305 (.node 300 (.leaf 299 (.code aS2)) (.node 304 (.leaf 300 (.prim false IC)) (.leaf 304 (.code aFO)))) (.node 307 (.node 306 (.leaf 305 (.code aS3)) (.leaf 306 (.code aS4))) (.node 308 (.leaf 307 (.code aS5)) (.leaf 308 (.code aS6))))) (.node 313 (.node 311 (.node 310 (.leaf 309 (.code aKp)) (.leaf 310 (.code aS7))) (.node 312 (.leaf 311 (.code aKs)) (.leaf 312 (.code aS8)))) (.node 316 (.node 315 (.leaf 313 (.code aS9)) (.leaf 315 (.prim false (gL 1)))) (.node 317 (.leaf 316 (.code aTa)) (.leaf 317 (.code aTb)))))))))
theorem aCx:aVU.All (EI Go.Proofs.Tryz.prog):=⟨⟨⟨⟨⟨⟨⟨aVT,⟨aPL,aPM⟩⟩,⟨⟨aPN,aPO⟩,⟨aPP,aPQ⟩⟩⟩,⟨⟨aPR,⟨aPS,aPT⟩⟩,⟨⟨aPU,aPV⟩,⟨aPW,aPX⟩⟩⟩⟩,⟨⟨⟨aPY,⟨aPZ,aP0⟩⟩,⟨⟨aP1,aP2⟩,⟨aP3,aP4⟩⟩⟩,⟨⟨⟨aP5,aP6⟩,⟨aP7,aP8⟩⟩,⟨⟨aP9,aQa⟩,⟨aQb,aQc⟩⟩⟩⟩⟩,⟨⟨⟨⟨aQd,⟨aQe,aQf⟩⟩,⟨⟨aQg,aQh⟩,⟨aQi,aQj⟩⟩⟩,⟨⟨⟨aTe,aQk⟩,⟨aQl,aTf⟩⟩,⟨⟨aQm,aQn⟩,⟨aQo,aQp⟩⟩⟩⟩,⟨⟨⟨aQq,⟨aQr,aQs⟩⟩,⟨⟨aQt,aQu⟩,⟨aQv,aQw⟩⟩⟩,⟨⟨⟨aQx,aQy⟩,⟨aQz,aQA⟩⟩,⟨⟨aQB,aQC⟩,⟨aQD,aQE⟩⟩⟩⟩⟩⟩,⟨⟨⟨⟨⟨aQF,⟨aQG,aQH⟩⟩,⟨⟨aQI,aQJ⟩,⟨aQK,aQL⟩⟩⟩,⟨⟨⟨aQM,aQN⟩,⟨aHN,aHO⟩⟩,⟨⟨aHP,aHQ⟩,⟨aHR,aHS⟩⟩⟩⟩,⟨⟨⟨aHT,⟨aHU,aHV⟩⟩,⟨⟨aHW,aHX⟩,⟨aHY,aHZ⟩⟩⟩,⟨⟨⟨aH1,aH2⟩,⟨aH3,aH4⟩⟩,⟨⟨aKy,aH5⟩,⟨aH6,aH7⟩⟩⟩⟩⟩,⟨⟨⟨⟨aH8,⟨aH9,aIa⟩⟩,⟨⟨aIb,aIc⟩,⟨aId,aIe⟩⟩⟩,⟨⟨⟨aIg,aIh⟩,⟨aIi,aIj⟩⟩,⟨⟨aIk,aIl⟩,⟨aIm,aIn⟩⟩⟩⟩,⟨⟨⟨aIo,⟨aIp,aIq⟩⟩,⟨⟨aIr,aIs⟩,⟨aIt,aIu⟩⟩⟩,⟨⟨⟨aIv,aIw⟩,⟨aIx,aIy⟩⟩,⟨⟨aIz,aIA⟩,⟨aIB,aIC⟩⟩⟩⟩⟩⟩⟩,⟨⟨⟨⟨⟨⟨aID,⟨aIE,aIF⟩⟩,⟨⟨aIG,aIH⟩,⟨aII,aIJ⟩⟩⟩,⟨⟨⟨aIK,aIL⟩,⟨aIM,aIN⟩⟩,⟨⟨aIO,aIP⟩,⟨aIQ,aKz⟩⟩⟩⟩,⟨⟨⟨aKA,⟨aKB,aKC⟩⟩,⟨⟨aIR,aIS⟩,⟨aIT,aIU⟩⟩⟩,⟨⟨⟨aIV,aIW⟩,⟨aIX,aIY⟩⟩,⟨⟨aIZ,aI0⟩,⟨aI1,aI2⟩⟩⟩⟩⟩,⟨⟨⟨⟨aI3,⟨aI4,aI5⟩⟩,⟨⟨aI6,aI7⟩,⟨aI8,aI9⟩⟩⟩,⟨⟨⟨aJa,aJb⟩,⟨aJc,aJd⟩⟩,⟨⟨aJe,aJf⟩,⟨aJg,aJh⟩⟩⟩⟩,⟨⟨⟨aJi,⟨aJj,aJk⟩⟩,⟨⟨aJl,aJm⟩,⟨aJn,aJo⟩⟩⟩,⟨⟨⟨aJp,aJq⟩,⟨aJr,aJs⟩⟩,⟨⟨aJt,aJu⟩,⟨aJv,aJw⟩⟩⟩⟩⟩⟩,⟨⟨⟨⟨⟨aJx,⟨aJy,aJz⟩⟩,⟨⟨aJB,aJC⟩,⟨aJE,aJF⟩⟩⟩,⟨⟨⟨aJG,aJH⟩,⟨aJJ,aJK⟩⟩,⟨⟨aJL,aJM⟩,⟨aJN,aJO⟩⟩⟩⟩,⟨⟨⟨aJP,⟨aJQ,aJR⟩⟩,⟨⟨aJS,aJT⟩,⟨aJU,aJV⟩⟩⟩,⟨⟨⟨aJW,aJX⟩,⟨aJY,aJZ⟩⟩,⟨⟨aJ0,aJ1⟩,⟨aJ2,aJ3⟩⟩⟩⟩⟩,⟨⟨⟨⟨aJ4,⟨aJ5,aJ6⟩⟩,⟨⟨aJ7,aJ8⟩,⟨aJ9,aKa⟩⟩⟩,⟨⟨⟨aKb,aKc⟩,⟨aKd,aKe⟩⟩,⟨⟨aKf,aKg⟩,⟨aKh,aKi⟩⟩⟩⟩,⟨⟨⟨aKj,⟨aKD,aKk⟩⟩,⟨⟨aKl,aKm⟩,⟨aKn,aKo⟩⟩⟩,⟨⟨⟨aKq,aKr⟩,⟨aKt,aKu⟩⟩,⟨⟨aKv,aKE⟩,⟨aKw,aKx⟩⟩⟩⟩⟩⟩⟩⟩
noncomputable def tab:qT:=aVU.get
theorem aPh:tab 6=some (.code x6):=rfl
theorem aTg:tab 12=some (.code x12):=rfl
theorem aTh:tab 15=some (.code x15):=rfl
theorem aTi:tab 17=some (.code x17):=rfl
theorem aTj:tab 21=some (.code x21):=rfl
theorem aTk:tab 23=some (.code x23):=rfl
theorem aTl:tab 24=some (.code x24):=rfl
theorem aTm:tab 25=some (.code x25):=rfl
theorem aTn:tab 26=some (.code x26):=rfl
theorem aTo:tab 27=some (.code x27):=rfl
theorem aTp:tab 28=some (.code x28):=rfl
theorem aTq:tab 29=some (.code x29):=rfl
theorem aTr:tab 30=some (.code x30):=rfl
theorem aTs:tab 31=some (.code x31):=rfl
theorem aTt:tab 32=some (.code x32):=rfl
theorem aTu:tab 33=some (.code x33):=rfl
theorem aTv:tab 34=some (.code x34):=rfl
theorem aTw:tab 36=some (.code x36):=rfl
theorem aTx:tab 40=some (.code x40):=rfl
theorem aTy:tab 41=some (.code x41):=rfl
theorem aTz:tab 42=some (.code x42):=rfl
theorem aTA:tab 44=some (.code x44):=rfl
theorem aFQ:tab 47=some (.code x47):=rfl
theorem aTB:tab 49=some (.code x49):=rfl
theorem aTC:tab 50=some (.code x50):=rfl
theorem aTD:tab 51=some (.code x51):=rfl
theorem aTE:tab 52=some (.code x52):=rfl
theorem aTF:tab 53=some (.code x53):=rfl
theorem aTG:tab 54=some (.code x54):=rfl
theorem aTH:tab 58=some (.code x58):=rfl
theorem aTI:tab 59=some (.code x59):=rfl
theorem aTJ:tab 60=some (.code x60):=rfl
theorem aTK:tab 62=some (.code x62):=rfl
theorem aTL:tab 63=some (.code x63):=rfl
theorem aTM:tab 65=some (.code x65):=rfl
theorem aTN:tab 66=some (.code x66):=rfl
theorem aTO:tab 67=some (.prim false (gL 1)):=rfl
theorem aTP:tab 68=some (.code x68):=rfl
theorem aTQ:tab 69=some (.code x69):=rfl
theorem aTR:tab 70=some (.shp (U5 aAX)):=rfl
theorem aTS:tab 71=some (.code x71):=rfl
theorem aTT:tab 72=some (.code x72):=rfl
theorem aTU:tab 73=some (.code x73):=rfl
theorem aTV:tab 74=some (.code x74):=rfl
theorem aTW:tab 75=some (.code x75):=rfl
theorem aTX:tab 76=some (.code x76):=rfl
theorem aTY:tab 77=some (.code x77):=rfl
theorem aTZ:tab 78=some (.code x78):=rfl
theorem aT0:tab 79=some (.code x79):=rfl
theorem aT1:tab 80=some (.code x80):=rfl
theorem aT2:tab 81=some (.code x81):=rfl
theorem aT3:tab 82=some (.code x82):=rfl
theorem aT4:tab 83=some (.code x83):=rfl
theorem aT5:tab 84=some (.code x84):=rfl
theorem aT6:tab 85=some (.code x85):=rfl
theorem aT7:tab 86=some (.code x86):=rfl
theorem aT8:tab 87=some (.code x87):=rfl
theorem aT9:tab 88=some (.code x88):=rfl
theorem aUa:tab 89=some (.code x89):=rfl
theorem aUb:tab 90=some (.code x90):=rfl
theorem aFR:tab 91=some (.code x91):=rfl
theorem aUc:tab 92=some (.code x92):=rfl
theorem aUd:tab 93=some (.code x93):=rfl
theorem aUe:tab 94=some (.code x94):=rfl
theorem aUf:tab 95=some (.code x95):=rfl
theorem aUg:tab 96=some (.code x96):=rfl
theorem aUh:tab 97=some (.code x97):=rfl
theorem aUi:tab 98=some (.code x98):=rfl
theorem aCy:tab 103=some (.code aQO):=rfl
theorem aCz:tab 104=some (.code aQP):=rfl
theorem aKF:tab 105=some (.code aQQ):=rfl
theorem aKG:tab 106=some (.code aQR):=rfl
theorem aKH:tab 107=some (.code aQS):=rfl
theorem aKI:tab 108=some (.code aQT):=rfl
theorem aKJ:tab 109=some (.code aQU):=rfl
theorem aKK:tab 110=some (.code aQV):=rfl
theorem aKL:tab 111=some (.code aQW):=rfl
theorem aKM:tab 112=some (.code aQX):=rfl
theorem aKN:tab 113=some (.code aQY):=rfl
theorem aCA:tab 114=some (.code aQZ):=rfl
theorem aKO:tab 115=some (.code aQ0):=rfl
theorem aCB:tab 116=some (.code aH0):=rfl
theorem aKP:tab 119=some (.code aQ1):=rfl
theorem aKQ:tab 122=some (.code aQ2):=rfl
theorem aKR:tab 123=some (.code aQ3):=rfl
theorem aKS:tab 124=some (.prim false (gL 3)):=rfl
theorem aCC:tab 125=some (.code aQ4):=rfl
theorem aKT:tab 126=some (.code aQ5):=rfl
theorem aKU:tab 128=some (.code aQ6):=rfl
theorem aKV:tab 129=some (.code aQ7):=rfl
theorem aKW:tab 130=some (.code aQ8):=rfl
theorem aCD:tab 131=some (.code aFL):=rfl
theorem VH:tab 132=some (.code aD3):=rfl
theorem aKX:tab 133=some (.code aQ9):=rfl
theorem KD:tab 134=some (.code YP):=rfl
theorem aKY:tab 136=some (.code aRa):=rfl
theorem aCE:tab 137=some (.code aIf):=rfl
theorem aKZ:tab 138=some (.code aRb):=rfl
theorem VI:tab 139=some (.code aRc):=rfl
theorem aK0:tab 140=some (.code aRd):=rfl
theorem aK1:tab 141=some (.code aRe):=rfl
theorem aK2:tab 142=some (.code aRf):=rfl
theorem aK3:tab 143=some (.code aRg):=rfl
theorem aK4:tab 144=some (.code aRh):=rfl
theorem aK5:tab 145=some (.code aRi):=rfl
theorem aK6:tab 146=some (.code aRj):=rfl
theorem aK7:tab 147=some (.code aRk):=rfl
theorem VJ:tab 148=some (.code aRl):=rfl
theorem aK8:tab 149=some (.code aRm):=rfl
theorem aCF:tab 150=some (.code aRn):=rfl
theorem VK:tab 151=some (.code aRo):=rfl
theorem aK9:tab 152=some (.code aRp):=rfl
theorem aLa:tab 153=some (.code aRq):=rfl
theorem aLb:tab 154=some (.code aRr):=rfl
theorem aLc:tab 155=some (.code aRs):=rfl
theorem aLd:tab 156=some (.code aRt):=rfl
theorem aLe:tab 157=some (.code aRu):=rfl
theorem aCG:tab 158=some (.code aFM):=rfl
theorem aLf:tab 159=some (.code aRv):=rfl
theorem aLg:tab 160=some (.code aRw):=rfl
theorem aLh:tab 163=some (.code aRx):=rfl
theorem aCH:tab 169=some (.code aRy):=rfl
theorem aLi:tab 170=some (.code aRz):=rfl
theorem aLj:tab 171=some (.code aRA):=rfl
theorem aLk:tab 172=some (.code aRB):=rfl
theorem aLl:tab 173=some (.code aRC):=rfl
theorem aLm:tab 174=some (.code aRD):=rfl
theorem aLn:tab 175=some (.code aRE):=rfl
theorem aLo:tab 176=some (.code aRF):=rfl
theorem aLp:tab 177=some (.code aRG):=rfl
theorem aLq:tab 178=some (.code aRH):=rfl
theorem aLr:tab 179=some (.code aRI):=rfl
theorem aCI:tab 180=some (.code aRJ):=rfl
theorem aLs:tab 181=some (.prim false (gL 3)):=rfl
theorem aLt:tab 182=some (.prim false (gL 3)):=rfl
theorem aLu:tab 183=some (.prim false (gL 5)):=rfl
theorem aLv:tab 184=some (.prim false (gL 1)):=rfl
theorem aLw:tab 185=some (.code aRK):=rfl
theorem aLx:tab 186=some (.code aRL):=rfl
theorem aLy:tab 187=some (.code aRM):=rfl
theorem aLz:tab 191=some (.code aRN):=rfl
theorem aLA:tab 192=some (.code aRO):=rfl
theorem aLB:tab 193=some (.code aRP):=rfl
theorem aLC:tab 194=some (.code aRQ):=rfl
theorem aLD:tab 195=some (.code aRR):=rfl
theorem aLE:tab 196=some (.code aRS):=rfl
theorem aLF:tab 197=some (.code aRT):=rfl
theorem aLG:tab 198=some (.code aRU):=rfl
theorem aCJ:tab 199=some (.code aFN):=rfl
theorem N4:tab 200=some (.code aBh):=rfl
theorem VL:tab 201=some (.code aD4):=rfl
theorem aLH:tab 211=some (.code aRV):=rfl
theorem aLI:tab 212=some (.code aRW):=rfl
theorem aLJ:tab 213=some (.code aRX):=rfl
theorem VM:tab 214=some (.code aRY):=rfl
theorem aLK:tab 215=some (.code aRZ):=rfl
theorem aLL:tab 216=some (.code aR0):=rfl
theorem aLM:tab 217=some (.code aR1):=rfl
theorem aLN:tab 218=some (.code aR2):=rfl
theorem aLO:tab 219=some (.code aR3):=rfl
theorem aLP:tab 220=some (.code aR4):=rfl
theorem aLQ:tab 221=some (.code aR5):=rfl
theorem aLR:tab 222=some (.code aR6):=rfl
theorem aLS:tab 223=some (.code aR7):=rfl
theorem aLT:tab 224=some (.code aR8):=rfl
theorem aLU:tab 225=some (.code aR9):=rfl
theorem aLV:tab 226=some (.code aSa):=rfl
theorem aLW:tab 227=some (.code aSb):=rfl
theorem aLX:tab 229=some (.code aSc):=rfl
theorem aLY:tab 231=some (.code aSd):=rfl
theorem aLZ:tab 232=some (.code aSe):=rfl
theorem aL0:tab 233=some (.code aSf):=rfl
theorem aL1:tab 234=some (.code aSg):=rfl
theorem aL2:tab 235=some (.code aSh):=rfl
theorem aL3:tab 236=some (.code aSi):=rfl
theorem aL4:tab 237=some (.code aSj):=rfl
theorem aL5:tab 238=some (.code aSk):=rfl
theorem aL6:tab 239=some (.code aSl):=rfl
theorem aL7:tab 240=some (.code aSm):=rfl
theorem aL8:tab 241=some (.code aSn):=rfl
theorem aL9:tab 242=some (.code aSo):=rfl
theorem aMa:tab 243=some (.code aSp):=rfl
theorem aCK:tab 244=some (.code aJA):=rfl
theorem aMb:tab 245=some (.code aSq):=rfl
theorem aMc:tab 246=some (.code aJD):=rfl
theorem aMd:tab 247=some (.code aSr):=rfl
theorem aMe:tab 249=some (.code aSs):=rfl
theorem aMf:tab 250=some (.code aSt):=rfl
theorem aMg:tab 251=some (.code aJI):=rfl
theorem aMh:tab 252=some (.code aSu):=rfl
theorem VN:tab 253=some (.code aSv):=rfl
theorem aMi:tab 254=some (.code aSw):=rfl
theorem aX2:tab 256=some (.code aSx):=rfl
theorem aX3:tab 257=some (.code aSy):=rfl
theorem aMj:tab 260=some (.code aSz):=rfl
theorem aMk:tab 261=some (.code aSA):=rfl
theorem aMl:tab 262=some (.code aSB):=rfl
theorem aMm:tab 263=some (.code aSC):=rfl
theorem aX4:tab 264=some (.code aSD):=rfl
theorem aX5:tab 265=some (.code aSE):=rfl
theorem aX6:tab 266=some (.code aSF):=rfl
theorem aX7:tab 267=some (.code aSG):=rfl
theorem aX8:tab 268=some (.code aSH):=rfl
theorem aX9:tab 269=some (.code aSI):=rfl
theorem aYa:tab 270=some (.code aSJ):=rfl
theorem aMn:tab 271=some (.code aSK):=rfl
theorem aMo:tab 272=some (.code aSL):=rfl
theorem aMp:tab 273=some (.code aSM):=rfl
theorem aMq:tab 282=some (.code aSN):=rfl
theorem aMr:tab 283=some (.code aSO):=rfl
theorem aMs:tab 284=some (.code aSP):=rfl
theorem aMt:tab 285=some (.code aSQ):=rfl
theorem VO:tab 286=some (.code aD5):=rfl
theorem aCL:tab 287=some (.code aSR):=rfl
theorem aMu:tab 288=some (.code aSS):=rfl
theorem aMv:tab 289=some (.code aST):=rfl
theorem aMw:tab 290=some (.code aSU):=rfl
theorem aMx:tab 291=some (.code aSV):=rfl
theorem aMy:tab 292=some (.code aSW):=rfl
theorem aMz:tab 293=some (.code aSX):=rfl
theorem aMA:tab 294=some (.code aSY):=rfl
theorem aMB:tab 296=some (.code aSZ):=rfl
theorem aYb:tab 297=some (.code aS0):=rfl
theorem aYc:tab 298=some (.code aS1):=rfl
theorem aYd:tab 299=some (.code aS2):=rfl
theorem aMC:tab 300=some (.prim false IC):=rfl
theorem aCM:tab 304=some (.code aFO):=rfl
theorem aMD:tab 305=some (.code aS3):=rfl
theorem aCN:tab 306=some (.code aS4):=rfl
theorem aME:tab 307=some (.code aS5):=rfl
theorem aMF:tab 308=some (.code aS6):=rfl
theorem aCO:tab 309=some (.code aKp):=rfl
theorem aMG:tab 310=some (.code aS7):=rfl
theorem aCP:tab 311=some (.code aKs):=rfl
theorem aMH:tab 312=some (.code aS8):=rfl
theorem aYe:tab 313=some (.code aS9):=rfl
theorem aMI:tab 315=some (.prim false (gL 1)):=rfl
theorem aMJ:tab 316=some (.code aTa):=rfl
theorem aMK:tab 317=some (.code aTb):=rfl
end Go.Proofs.YtlnclppkepgdmaaGreat
