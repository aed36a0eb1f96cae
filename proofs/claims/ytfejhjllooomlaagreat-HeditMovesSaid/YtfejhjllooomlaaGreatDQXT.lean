/- The table of the seat's functions. Printed by a program. -/
import Derived.Test.YtfejhjllooomlaaGreatDQX1
import Derived.Test.YtfejhjllooomlaaGreatDQIN
import Derived.Test.YtfejhjllooomlaaGreatChecked
set_option maxRecDepth 100000
namespace Go.Proofs.YtfejhjllooomlaaGreat
open Go.Vm
theorem oL:Go.Proofs.Tryz.prog.follows .mixedOrders=true:=Go.Proofs.Tryz.checked.mixed
theorem aPo:CW Go.Proofs.Tryz.prog 64 (.prim false (gO 1)):=⟨rfl,qK oL (zero:=[.int .i64 0]) (by decide+kernel)⟩
theorem aPp:CW Go.Proofs.Tryz.prog 90 (.shp (Q7 3)):=aPn
theorem aPq:CW Go.Proofs.Tryz.prog 91 (.prim false (gO 3)):=⟨rfl,qK oL (zero:=[.int .i64 0,.int .i64 0,.int .i64 0]) (by decide+kernel)⟩
theorem aHh:CW Go.Proofs.Tryz.prog 170 (.prim false (gO 3)):=⟨rfl,qK oL (zero:=[.int .i64 0,.int .i64 0,.int .i64 0]) (by decide+kernel)⟩
theorem aHi:CW Go.Proofs.Tryz.prog 171 (.prim false (gO 3)):=⟨rfl,qK oL (zero:=[.int .i64 0,.int .i64 0,.int .i64 0]) (by decide+kernel)⟩
theorem aHj:CW Go.Proofs.Tryz.prog 172 (.prim false (gO 5)):=⟨rfl,qK oL (zero:=[.int .i64 0,.int .i64 0,.int .i64 0,.int .i64 0,.int .i64 0]) (by decide+kernel)⟩
theorem aHk:CW Go.Proofs.Tryz.prog 173 (.prim false (gO 1)):=⟨rfl,qK oL (zero:=[.bool false]) (by decide+kernel)⟩
theorem aHl:CW Go.Proofs.Tryz.prog 275 (.prim false F8):=⟨rfl,XB Go.Proofs.Tryz.func275 (by kernel_rfl) (by kernel_rfl) (by kernel_rfl) (by kernel_rfl)⟩
theorem aHm:CW Go.Proofs.Tryz.prog 290 (.prim false (gO 1)):=⟨rfl,qK oL (zero:=[.int .i64 0]) (by decide+kernel)⟩
noncomputable def aR2:TT:= .node 160 (.node 91 (.node 52 (.node 34 (.node 21 (.node 13 (.node 11 (.leaf 8 (.code x8)) (.node 12 (.leaf 11 (.code x11)) (.leaf 12 (.code x12)))) (.node 15 (.leaf 13 (.code x13)) (.node 19 (.leaf 15 (.code x15)) (.leaf 19 (.code x19))))) (.node 26 (.node 22 (.leaf 21 (.code x21)) (.node 25 (.leaf 22 (.code x22)) (.leaf 25 (.code x25)))) (.node 30 (.node 29 (.leaf 26 (.code x26)) (.leaf 29 (.code x29))) (.node 32 (.leaf 30 (.code x30)) (.leaf 32 (.code x32)))))) (.node 42 (.node 38 (.node 36 (.leaf 34 (.code x34)) (.node 37 (.leaf 36 (.code x36)) (.leaf 37 (.code x37)))) (.node 40 (.node 39 (.leaf 38 (.code x38)) (.leaf 39 (.code x39))) (.node 41 (.leaf 40 (.code x40)) (.leaf 41 (.code x41))))) (.node 45 (.node 43 (.leaf 42 (.code x42)) (.node 44 (.leaf 43 (.code x43)) (.leaf 44 (.code x44)))) (.node 48 (.node 47 (.leaf 45 (.code x45)) (.leaf 47 (.code x47))) (.node 51 (.leaf 48 (.code x48)) (.leaf 51 (.code x51))))))) (.node 71 (.node 59 (.node 55 (.node 53 (.leaf 52 (.code x52)) (.node 54 (.leaf 53 (.code x53)) (.leaf 54 (.code x54)))) (.node 57 (.node 56 (.leaf 55 (.code x55)) (.leaf 56 (.code x56))) (.node 58 (.leaf 57 (.code x57)) (.leaf 58 (.code x58))))) (.node 64 (.node 60 (.leaf 59 (.code x59)) (.node 61 (.leaf 60 (.code x60)) (.leaf 61 (.code x61)))) (.node 69 (.node 68 (.leaf 64 (.prim false (gO 1))) (.leaf 68 (.code x68))) (.node 70 (.leaf 69 (.code x69)) (.leaf 70 (.code x70)))))) (.node 83 (.node 77 (.node 72 (.leaf 71 (.code x71)) (.node 73 (.leaf 72 (.code x72)) (.leaf 73 (.code x73)))) (.node 79 (.node 78 (.leaf 77 (.code x77)) (.leaf 78 (.code x78))) (.node 82 (.leaf 79 (.code x79)) (.leaf 82 (.code x82))))) (.node 87 (.node 85 (.leaf 83 (.code x83)) (.node 86 (.leaf 85 (.code x85)) (.leaf 86 (.code x86)))) (.node 89 (.node 88 (.leaf 87 (.code x87)) (.leaf 88 (.code x88))) (.node 90 (.leaf 89 (.code x89)) (.leaf 90 (.shp (Q7 3))))))))) (.node 123 (.node 104 (.node 97 (.node 94 (.node 92 (.leaf 91 (.prim false (gO 3))) (.node 93 (.leaf 92 (.code x92)) (.leaf 93 (.code x93)))) (.node 95 (.leaf 94 (.code x94)) (.node 96 (.leaf 95 (.code x95)) (.leaf 96 (.code x96))))) (.node 100 (.node 98 (.leaf 97 (.code x97)) (.node 99 (.leaf 98 (.code x98)) (.leaf 99 (.code x99)))) (.node 102 (.node 101 (.leaf 100 (.code aM6)) (.leaf 101 (.code aM7))) (.node 103 (.leaf 102 (.code aM8)) (.leaf 103 (.code aM9)))))) (.node 111 (.node 107 (.node 105 (.leaf 104 (.code aNa)) (.node 106 (.leaf 105 (.code aNb)) (.leaf 106 (.code aNc)))) (.node 109 (.node 108 (.leaf 107 (.code aNd)) (.leaf 108 (.code aNe))) (.node 110 (.leaf 109 (.code aNf)) (.leaf 110 (.code aNg))))) (.node 119 (.node 112 (.leaf 111 (.code aNh)) (.node 115 (.leaf 112 (.code aNi)) (.leaf 115 (.code aNj)))) (.node 121 (.node 120 (.leaf 119 (.code aNk)) (.leaf 120 (.code aNl))) (.node 122 (.leaf 121 (.code aNm)) (.leaf 122 (.code aNn))))))) (.node 143 (.node 136 (.node 126 (.node 124 (.leaf 123 (.code aNo)) (.node 125 (.leaf 124 (.code aNp)) (.leaf 125 (.code aNq)))) (.node 128 (.node 127 (.leaf 126 (.code aNr)) (.leaf 127 (.code aC0))) (.node 131 (.leaf 128 (.code aNs)) (.leaf 131 (.code aNt))))) (.node 139 (.node 137 (.leaf 136 (.code aNu)) (.node 138 (.leaf 137 (.code aNv)) (.leaf 138 (.code aBn)))) (.node 141 (.node 140 (.leaf 139 (.code aNw)) (.leaf 140 (.code aBo))) (.node 142 (.leaf 141 (.code aBp)) (.leaf 142 (.code aNx)))))) (.node 151 (.node 147 (.node 144 (.leaf 143 (.code aNy)) (.node 146 (.leaf 144 (.code aNz)) (.leaf 146 (.code aNA)))) (.node 149 (.node 148 (.leaf 147 (.code aNB)) (.leaf 148 (.code aNC))) (.node 150 (.leaf 149 (.code aND)) (.leaf 150 (.code aNE))))) (.node 156 (.node 154 (.leaf 151 (.code aNF)) (.node 155 (.leaf 154 (.code aNG)) (.leaf 155 (.code aNH)))) (.node 158 (.node 157 (.leaf 156 (.code aNI)) (.leaf 157 (.code aNJ))) (.node 159 (.leaf 158 (.code aNK)) (.leaf 159 (.code aNL))))))))) (.node 225 (.node 194 (.node 178 (.node 166 (.node 163 (.node 161 (.leaf 160 (.code aNM)) (.node 162 (.leaf 161 (.code aNN)) (.leaf 162 (.code aNO)))) (.node 164 (.leaf 163 (.code aNP)) (.node 165 (.leaf 164 (.code aNQ)) (.leaf 165 (.code aNR))))) (.node 170 (.node 167 (.leaf 166 (.code aNS)) (.node 168 (.leaf 167 (.code aNT)) (.leaf 168 (.code aNU)))) (.node 172 (.node 171 (.leaf 170 (.prim false (gO 3))) (.leaf 171 (.prim false (gO 3)))) (.node 173 (.leaf 172 (.prim false (gO 5))) (.leaf 173 (.prim false (gO 1))))))) (.node 185 (.node 181 (.node 179 (.leaf 178 (.code aNV)) (.node 180 (.leaf 179 (.code aNW)) (.leaf 180 (.code aNX)))) (.node 183 (.node 182 (.leaf 181 (.code aNY)) (.leaf 182 (.code aNZ))) (.node 184 (.leaf 183 (.code aN0)) (.leaf 184 (.code aN1))))) (.node 188 (.node 186 (.leaf 185 (.code aN2)) (.node 187 (.leaf 186 (.code aN3)) (.leaf 187 (.code aN4)))) (.node 190 (.node 189 (.leaf 188 (.code aN5)) (.leaf 189 (.code aN6))) (.node 192 (.leaf 190 (.code aN7)) (.leaf 192 (.code aN8))))))) (.node 209 (.node 201 (.node 197 (.node 195 (.leaf 194 (.code aN9)) (.node 196 (.leaf 195 (.code aOa)) (.leaf 196 (.code aOb)))) (.node 199 (.node 198 (.leaf 197 (.code aOc)) (.leaf 198 (.code aOd))) (.node 200 (.leaf 199 (.code aOe)) (.leaf 200 (.code aOf))))) (.node 205 (.node 202 (.leaf 201 (.code aOg)) (.node 203 (.leaf 202 (.code aOh)) (.leaf 203 (.code aOi)))) (.node 207 (.node 206 (.leaf 205 (.code aOj)) (.leaf 206 (.code aOk))) (.node 208 (.leaf 207 (.code aOl)) (.leaf 208 (.code aOm)))))) (.node 218 (.node 212 (.node 210 (.leaf 209 (.code aOn)) (.node 211 (.leaf 210 (.code aOo)) (.leaf 211 (.code aOp)))) (.node 216 (.node 215 (.leaf 212 (.code aOq)) (.leaf 215 (.code aOr))) (.node 217 (.leaf 216 (.code aOs)) (.leaf 217 (.code aOt))))) (.node 221 (.node 219 (.leaf 218 (.code aOu)) (.node 220 (.leaf 219 (.code aBq)) (.leaf 220 (.code aOv)))) (.node 223 (.node 222 (.leaf 221 (.code aOw)) (.leaf 222 (.code aOx))) (.node 224 (.leaf 223 (.code aOy)) (.leaf 224 (.code aOz)))))))) (.node 261 (.node 238 (.node 231 (.node 228 (.node 226 (.leaf 225 (.code aOA)) (.node 227 (.leaf 226 (.code aOB)) (.leaf 227 (.code aOC)))) (.node 229 (.leaf 228 (.code aOD)) (.node 230 (.leaf 229 (.code aOE)) (.leaf 230 (.code aOF))))) (.node 234 (.node 232 (.leaf 231 (.code aOG)) (.node 233 (.leaf 232 (.code aOH)) (.leaf 233 (.code aOI)))) (.node 236 (.node 235 (.leaf 234 (.code aOJ)) (.leaf 235 (.code aOK))) (.node 237 (.leaf 236 (.code aOL)) (.leaf 237 (.code aOM)))))) (.node 253 (.node 249 (.node 247 (.leaf 238 (.code aON)) (.node 248 (.leaf 247 (.code aOO)) (.leaf 248 (.code aOP)))) (.node 251 (.node 250 (.leaf 249 (.code aOQ)) (.leaf 250 (.code aOR))) (.node 252 (.leaf 251 (.code aOS)) (.leaf 252 (.code aOT))))) (.node 257 (.node 254 (.leaf 253 (.code aOU)) (.node 255 (.leaf 254 (.code aOV)) (.leaf 255 (.code aOW)))) (.node 259 (.node 258 (.leaf 257 (.code aOX)) (.leaf 258 (.code aGK))) (.node 260 (.leaf 259 (.code aGM)) (.leaf 260 (.code aOY))))))) (.node 279 (.node 269 (.node 265 (.node 262 (.leaf 261 (.code aOZ)) (.node 264 (.leaf 262 (.code aO0)) (.leaf 264 (.code aO1)))) (.node 267 (.node 266 (.leaf 265 (.code aO2)) (.leaf 266 (.code aO3))) (.node 268 (.leaf 267 (.code aO4)) (.leaf 268 (.code aC1))))) (.node 272 (.node 270 (.leaf 269 (.code aO5)) (.node 271 (.leaf 270 (.code aO6)) (.leaf 271 (.code aO7)))) (.node 274 (.node 273 (.leaf 272 (.code aO8)) (.leaf 273 (.code aO9))) (.node 275 (.leaf 274 (.code aPa)) (.leaf 275 (.prim false F8)))))) (.node 286 (.node 282 (.node 280 (.leaf 279 (.code aPb)) (.node 281 (.leaf 280 (.code aPc)) (.leaf 281 (.code aPd)))) (.node 284 (.node 283 (.leaf 282 (.code aPe)) (.leaf 283 (.code aPf))) (.node 285 (.leaf 284 (.code aPg)) (.leaf 285 (.code aPh))))) (.node 289 (.node 287 (.leaf 286 (.code aG9)) (.node 288 (.leaf 287 (.code aPi)) (.leaf 288 (.code aPj)))) (.node 291 (.node 290 (.leaf 289 (.code aPk)) (.leaf 290 (.prim false (gO 1)))) (.node 292 (.leaf 291 (.code aPl)) (.leaf 292 (.code aPm)))))))))
theorem ZW:aR2.All (CW Go.Proofs.Tryz.prog):=⟨⟨⟨⟨⟨⟨⟨aR1,⟨aL8,aL9⟩⟩,⟨aMa,⟨aMb,aMc⟩⟩⟩,⟨⟨aMd,⟨aMe,aMf⟩⟩,⟨⟨aMg,aMh⟩,⟨aMi,aMj⟩⟩⟩⟩,⟨⟨⟨aMk,⟨aMl,aMm⟩⟩,⟨⟨aMn,aMo⟩,⟨aMp,aMq⟩⟩⟩,⟨⟨aMr,⟨aMs,aMt⟩⟩,⟨⟨aMu,aMv⟩,⟨aMw,aMx⟩⟩⟩⟩⟩,⟨⟨⟨⟨aMy,⟨aMz,aMA⟩⟩,⟨⟨aMB,aMC⟩,⟨aMD,aME⟩⟩⟩,⟨⟨aMF,⟨aMG,aMH⟩⟩,⟨⟨aPo,aMI⟩,⟨aMJ,aMK⟩⟩⟩⟩,⟨⟨⟨aML,⟨aMM,aMN⟩⟩,⟨⟨aMO,aMP⟩,⟨aMQ,aMR⟩⟩⟩,⟨⟨aMS,⟨aMT,aMU⟩⟩,⟨⟨aMV,aMW⟩,⟨aMX,aPp⟩⟩⟩⟩⟩⟩,⟨⟨⟨⟨⟨aPq,⟨aMY,aMZ⟩⟩,⟨aM0,⟨aM1,aM2⟩⟩⟩,⟨⟨aM3,⟨aM4,aM5⟩⟩,⟨⟨aEN,aEO⟩,⟨aEP,aEQ⟩⟩⟩⟩,⟨⟨⟨aER,⟨aES,aET⟩⟩,⟨⟨aEU,aEV⟩,⟨aEW,aEX⟩⟩⟩,⟨⟨aEY,⟨aEZ,aE0⟩⟩,⟨⟨aE1,aE2⟩,⟨aE3,aE4⟩⟩⟩⟩⟩,⟨⟨⟨⟨aE5,⟨aE6,aE7⟩⟩,⟨⟨aE8,aE9⟩,⟨aFa,aFb⟩⟩⟩,⟨⟨aFc,⟨aFd,aFe⟩⟩,⟨⟨aFf,aFg⟩,⟨aFh,aFi⟩⟩⟩⟩,⟨⟨⟨aFj,⟨aFk,aFl⟩⟩,⟨⟨aFm,aFn⟩,⟨aFo,aFp⟩⟩⟩,⟨⟨aFq,⟨aFr,aFs⟩⟩,⟨⟨aFt,aFu⟩,⟨aFv,aFw⟩⟩⟩⟩⟩⟩⟩,⟨⟨⟨⟨⟨⟨aFx,⟨aFy,aFz⟩⟩,⟨aFA,⟨aFB,aFC⟩⟩⟩,⟨⟨aFD,⟨aFE,aFF⟩⟩,⟨⟨aHh,aHi⟩,⟨aHj,aHk⟩⟩⟩⟩,⟨⟨⟨aFG,⟨aFH,aFI⟩⟩,⟨⟨aFJ,aFK⟩,⟨aFL,aFM⟩⟩⟩,⟨⟨aFN,⟨aFO,aFP⟩⟩,⟨⟨aFQ,aFR⟩,⟨aFS,aFT⟩⟩⟩⟩⟩,⟨⟨⟨⟨aFU,⟨aFV,aFW⟩⟩,⟨⟨aFX,aFY⟩,⟨aFZ,aF0⟩⟩⟩,⟨⟨aF1,⟨aF2,aF3⟩⟩,⟨⟨aF4,aF5⟩,⟨aF6,aF7⟩⟩⟩⟩,⟨⟨⟨aF8,⟨aF9,aGa⟩⟩,⟨⟨aGb,aGc⟩,⟨aGd,aGe⟩⟩⟩,⟨⟨aGf,⟨aGg,aGh⟩⟩,⟨⟨aGi,aGj⟩,⟨aGk,aGl⟩⟩⟩⟩⟩⟩,⟨⟨⟨⟨⟨aGm,⟨aGn,aGo⟩⟩,⟨aGp,⟨aGq,aGr⟩⟩⟩,⟨⟨aGs,⟨aGt,aGu⟩⟩,⟨⟨aGv,aGw⟩,⟨aGx,aGy⟩⟩⟩⟩,⟨⟨⟨aGz,⟨aGA,aGB⟩⟩,⟨⟨aGC,aGD⟩,⟨aGE,aGF⟩⟩⟩,⟨⟨aGG,⟨aGH,aGI⟩⟩,⟨⟨aGJ,aGL⟩,⟨aGN,aGO⟩⟩⟩⟩⟩,⟨⟨⟨⟨aGP,⟨aGQ,aGR⟩⟩,⟨⟨aGS,aGT⟩,⟨aGU,aGV⟩⟩⟩,⟨⟨aGW,⟨aGX,aGY⟩⟩,⟨⟨aGZ,aG0⟩,⟨aG1,aHl⟩⟩⟩⟩,⟨⟨⟨aG2,⟨aG3,aG4⟩⟩,⟨⟨aG5,aG6⟩,⟨aG7,aG8⟩⟩⟩,⟨⟨aHa,⟨aHb,aHc⟩⟩,⟨⟨aHd,aHm⟩,⟨aHe,aHf⟩⟩⟩⟩⟩⟩⟩⟩
noncomputable def aV:qJ:=aR2.get
theorem aLF:aV 8=some (.code x8):=rfl
theorem aPr:aV 11=some (.code x11):=rfl
theorem aPs:aV 12=some (.code x12):=rfl
theorem aPt:aV 13=some (.code x13):=rfl
theorem aPu:aV 15=some (.code x15):=rfl
theorem aPv:aV 19=some (.code x19):=rfl
theorem aPw:aV 21=some (.code x21):=rfl
theorem aPx:aV 22=some (.code x22):=rfl
theorem aPy:aV 25=some (.code x25):=rfl
theorem aPz:aV 26=some (.code x26):=rfl
theorem aPA:aV 29=some (.code x29):=rfl
theorem aPB:aV 30=some (.code x30):=rfl
theorem aPC:aV 32=some (.code x32):=rfl
theorem aPD:aV 34=some (.code x34):=rfl
theorem aPE:aV 36=some (.code x36):=rfl
theorem aPF:aV 37=some (.code x37):=rfl
theorem aPG:aV 38=some (.code x38):=rfl
theorem aPH:aV 39=some (.code x39):=rfl
theorem aPI:aV 40=some (.code x40):=rfl
theorem aPJ:aV 41=some (.code x41):=rfl
theorem aPK:aV 42=some (.code x42):=rfl
theorem aPL:aV 43=some (.code x43):=rfl
theorem aPM:aV 44=some (.code x44):=rfl
theorem aPN:aV 45=some (.code x45):=rfl
theorem aPO:aV 47=some (.code x47):=rfl
theorem aPP:aV 48=some (.code x48):=rfl
theorem aPQ:aV 51=some (.code x51):=rfl
theorem aPR:aV 52=some (.code x52):=rfl
theorem aPS:aV 53=some (.code x53):=rfl
theorem aPT:aV 54=some (.code x54):=rfl
theorem aC4:aV 55=some (.code x55):=rfl
theorem aPU:aV 56=some (.code x56):=rfl
theorem aPV:aV 57=some (.code x57):=rfl
theorem aPW:aV 58=some (.code x58):=rfl
theorem aPX:aV 59=some (.code x59):=rfl
theorem aPY:aV 60=some (.code x60):=rfl
theorem aPZ:aV 61=some (.code x61):=rfl
theorem aP0:aV 64=some (.prim false (gO 1)):=rfl
theorem aP1:aV 68=some (.code x68):=rfl
theorem aP2:aV 69=some (.code x69):=rfl
theorem aP3:aV 70=some (.code x70):=rfl
theorem aP4:aV 71=some (.code x71):=rfl
theorem aP5:aV 72=some (.code x72):=rfl
theorem aP6:aV 73=some (.code x73):=rfl
theorem aC5:aV 77=some (.code x77):=rfl
theorem X0:aV 78=some (.code x78):=rfl
theorem aP7:aV 79=some (.code x79):=rfl
theorem aC6:aV 82=some (.code x82):=rfl
theorem aP8:aV 83=some (.code x83):=rfl
theorem aP9:aV 85=some (.code x85):=rfl
theorem aC7:aV 86=some (.code x86):=rfl
theorem aQa:aV 87=some (.code x87):=rfl
theorem aQb:aV 88=some (.code x88):=rfl
theorem aQc:aV 89=some (.code x89):=rfl
theorem aQd:aV 90=some (.shp (Q7 3)):=rfl
theorem aQe:aV 91=some (.prim false (gO 3)):=rfl
theorem aQf:aV 92=some (.code x92):=rfl
theorem aQg:aV 93=some (.code x93):=rfl
theorem aQh:aV 94=some (.code x94):=rfl
theorem aQi:aV 95=some (.code x95):=rfl
theorem aQj:aV 96=some (.code x96):=rfl
theorem aQk:aV 97=some (.code x97):=rfl
theorem aQl:aV 98=some (.code x98):=rfl
theorem aQm:aV 99=some (.code x99):=rfl
theorem aHn:aV 100=some (.code aM6):=rfl
theorem aHo:aV 101=some (.code aM7):=rfl
theorem aHp:aV 102=some (.code aM8):=rfl
theorem aHq:aV 103=some (.code aM9):=rfl
theorem aHr:aV 104=some (.code aNa):=rfl
theorem aHs:aV 105=some (.code aNb):=rfl
theorem aHt:aV 106=some (.code aNc):=rfl
theorem aHu:aV 107=some (.code aNd):=rfl
theorem aHv:aV 108=some (.code aNe):=rfl
theorem aHw:aV 109=some (.code aNf):=rfl
theorem aHx:aV 110=some (.code aNg):=rfl
theorem aHy:aV 111=some (.code aNh):=rfl
theorem aHz:aV 112=some (.code aNi):=rfl
theorem ZX:aV 115=some (.code aNj):=rfl
theorem aHA:aV 119=some (.code aNk):=rfl
theorem aHB:aV 120=some (.code aNl):=rfl
theorem aHC:aV 121=some (.code aNm):=rfl
theorem ZY:aV 122=some (.code aNn):=rfl
theorem aHD:aV 123=some (.code aNo):=rfl
theorem aHE:aV 124=some (.code aNp):=rfl
theorem aHF:aV 125=some (.code aNq):=rfl
theorem aHG:aV 126=some (.code aNr):=rfl
theorem ZZ:aV 127=some (.code aC0):=rfl
theorem aHH:aV 128=some (.code aNs):=rfl
theorem aHI:aV 131=some (.code aNt):=rfl
theorem Z0:aV 136=some (.code aNu):=rfl
theorem Z1:aV 137=some (.code aNv):=rfl
theorem R5:aV 138=some (.code aBn):=rfl
theorem aHJ:aV 139=some (.code aNw):=rfl
theorem R6:aV 140=some (.code aBo):=rfl
theorem R7:aV 141=some (.code aBp):=rfl
theorem aHK:aV 142=some (.code aNx):=rfl
theorem aHL:aV 143=some (.code aNy):=rfl
theorem aHM:aV 144=some (.code aNz):=rfl
theorem aHN:aV 146=some (.code aNA):=rfl
theorem aHO:aV 147=some (.code aNB):=rfl
theorem aHP:aV 148=some (.code aNC):=rfl
theorem Z2:aV 149=some (.code aND):=rfl
theorem aHQ:aV 150=some (.code aNE):=rfl
theorem aHR:aV 151=some (.code aNF):=rfl
theorem aHS:aV 154=some (.code aNG):=rfl
theorem aHT:aV 155=some (.code aNH):=rfl
theorem aHU:aV 156=some (.code aNI):=rfl
theorem aHV:aV 157=some (.code aNJ):=rfl
theorem aHW:aV 158=some (.code aNK):=rfl
theorem aHX:aV 159=some (.code aNL):=rfl
theorem aHY:aV 160=some (.code aNM):=rfl
theorem aHZ:aV 161=some (.code aNN):=rfl
theorem aH0:aV 162=some (.code aNO):=rfl
theorem aH1:aV 163=some (.code aNP):=rfl
theorem aH2:aV 164=some (.code aNQ):=rfl
theorem aH3:aV 165=some (.code aNR):=rfl
theorem aH4:aV 166=some (.code aNS):=rfl
theorem aH5:aV 167=some (.code aNT):=rfl
theorem aH6:aV 168=some (.code aNU):=rfl
theorem aH7:aV 170=some (.prim false (gO 3)):=rfl
theorem aH8:aV 171=some (.prim false (gO 3)):=rfl
theorem aH9:aV 172=some (.prim false (gO 5)):=rfl
theorem aIa:aV 173=some (.prim false (gO 1)):=rfl
theorem aIb:aV 178=some (.code aNV):=rfl
theorem aIc:aV 179=some (.code aNW):=rfl
theorem aId:aV 180=some (.code aNX):=rfl
theorem aIe:aV 181=some (.code aNY):=rfl
theorem aIf:aV 182=some (.code aNZ):=rfl
theorem Z3:aV 183=some (.code aN0):=rfl
theorem aIg:aV 184=some (.code aN1):=rfl
theorem aIh:aV 185=some (.code aN2):=rfl
theorem aIi:aV 186=some (.code aN3):=rfl
theorem aIj:aV 187=some (.code aN4):=rfl
theorem aIk:aV 188=some (.code aN5):=rfl
theorem aIl:aV 189=some (.code aN6):=rfl
theorem aIm:aV 190=some (.code aN7):=rfl
theorem aIn:aV 192=some (.code aN8):=rfl
theorem aIo:aV 194=some (.code aN9):=rfl
theorem Z4:aV 195=some (.code aOa):=rfl
theorem Z5:aV 196=some (.code aOb):=rfl
theorem aIp:aV 197=some (.code aOc):=rfl
theorem aIq:aV 198=some (.code aOd):=rfl
theorem aIr:aV 199=some (.code aOe):=rfl
theorem aIs:aV 200=some (.code aOf):=rfl
theorem aIt:aV 201=some (.code aOg):=rfl
theorem aIu:aV 202=some (.code aOh):=rfl
theorem aIv:aV 203=some (.code aOi):=rfl
theorem aIw:aV 205=some (.code aOj):=rfl
theorem aIx:aV 206=some (.code aOk):=rfl
theorem aIy:aV 207=some (.code aOl):=rfl
theorem aIz:aV 208=some (.code aOm):=rfl
theorem aIA:aV 209=some (.code aOn):=rfl
theorem aIB:aV 210=some (.code aOo):=rfl
theorem aIC:aV 211=some (.code aOp):=rfl
theorem aID:aV 212=some (.code aOq):=rfl
theorem aIE:aV 215=some (.code aOr):=rfl
theorem aIF:aV 216=some (.code aOs):=rfl
theorem aIG:aV 217=some (.code aOt):=rfl
theorem aIH:aV 218=some (.code aOu):=rfl
theorem R8:aV 219=some (.code aBq):=rfl
theorem Z6:aV 220=some (.code aOv):=rfl
theorem aII:aV 221=some (.code aOw):=rfl
theorem aIJ:aV 222=some (.code aOx):=rfl
theorem aIK:aV 223=some (.code aOy):=rfl
theorem aIL:aV 224=some (.code aOz):=rfl
theorem aIM:aV 225=some (.code aOA):=rfl
theorem aIN:aV 226=some (.code aOB):=rfl
theorem aIO:aV 227=some (.code aOC):=rfl
theorem aUm:aV 228=some (.code aOD):=rfl
theorem aUn:aV 229=some (.code aOE):=rfl
theorem aUo:aV 230=some (.code aOF):=rfl
theorem aUp:aV 231=some (.code aOG):=rfl
theorem aUq:aV 232=some (.code aOH):=rfl
theorem aUr:aV 233=some (.code aOI):=rfl
theorem aUs:aV 234=some (.code aOJ):=rfl
theorem aIP:aV 235=some (.code aOK):=rfl
theorem aIQ:aV 236=some (.code aOL):=rfl
theorem aIR:aV 237=some (.code aOM):=rfl
theorem aIS:aV 238=some (.code aON):=rfl
theorem aIT:aV 247=some (.code aOO):=rfl
theorem aIU:aV 248=some (.code aOP):=rfl
theorem aIV:aV 249=some (.code aOQ):=rfl
theorem aIW:aV 250=some (.code aOR):=rfl
theorem aIX:aV 251=some (.code aOS):=rfl
theorem aIY:aV 252=some (.code aOT):=rfl
theorem aIZ:aV 253=some (.code aOU):=rfl
theorem aI0:aV 254=some (.code aOV):=rfl
theorem aI1:aV 255=some (.code aOW):=rfl
theorem aI2:aV 257=some (.code aOX):=rfl
theorem aI3:aV 258=some (.code aGK):=rfl
theorem aI4:aV 259=some (.code aGM):=rfl
theorem aI5:aV 260=some (.code aOY):=rfl
theorem aI6:aV 261=some (.code aOZ):=rfl
theorem aI7:aV 262=some (.code aO0):=rfl
theorem aI8:aV 264=some (.code aO1):=rfl
theorem Z7:aV 265=some (.code aO2):=rfl
theorem aI9:aV 266=some (.code aO3):=rfl
theorem aJa:aV 267=some (.code aO4):=rfl
theorem Z8:aV 268=some (.code aC1):=rfl
theorem aJb:aV 269=some (.code aO5):=rfl
theorem aUt:aV 270=some (.code aO6):=rfl
theorem aUu:aV 271=some (.code aO7):=rfl
theorem aUv:aV 272=some (.code aO8):=rfl
theorem aUw:aV 273=some (.code aO9):=rfl
theorem aUx:aV 274=some (.code aPa):=rfl
theorem aJc:aV 275=some (.prim false F8):=rfl
theorem R9:aV 279=some (.code aPb):=rfl
theorem aJd:aV 280=some (.code aPc):=rfl
theorem Z9:aV 281=some (.code aPd):=rfl
theorem SA:aV 282=some (.code aPe):=rfl
theorem aJe:aV 283=some (.code aPf):=rfl
theorem aJf:aV 284=some (.code aPg):=rfl
theorem aJg:aV 285=some (.code aPh):=rfl
theorem aJh:aV 286=some (.code aG9):=rfl
theorem aJi:aV 287=some (.code aPi):=rfl
theorem aJj:aV 288=some (.code aPj):=rfl
theorem aJk:aV 289=some (.code aPk):=rfl
theorem aJl:aV 290=some (.prim false (gO 1)):=rfl
theorem aJm:aV 291=some (.code aPl):=rfl
theorem aUy:aV 292=some (.code aPm):=rfl
end Go.Proofs.YtfejhjllooomlaaGreat
