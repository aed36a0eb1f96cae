/- The table of the seat's functions. Printed by a program. -/
import Derived.Test.YthljmpcakagceaaGreatAQX1
import Derived.Test.YthljmpcakagceaaGreatAQIN
import Derived.Test.YthljmpcakagceaaGreatChecked
set_option maxRecDepth 100000
namespace Go.Proofs.YthljmpcakagceaaGreat
open Go.Vm
theorem nR:Go.Proofs.Tryz.prog.follows .mixedOrders=true:=Go.Proofs.Tryz.checked.mixed
theorem aF9:B1 Go.Proofs.Tryz.prog 102 (.shp (PJ 3)):=aOr
theorem aGa:B1 Go.Proofs.Tryz.prog 103 (.prim false (fX 3)):=⟨rfl,pP nR (zero:=[.int .i64 0,.int .i64 0,.int .i64 0]) (by decide+kernel)⟩
theorem aGb:B1 Go.Proofs.Tryz.prog 182 (.prim false (fX 3)):=⟨rfl,pP nR (zero:=[.int .i64 0,.int .i64 0,.int .i64 0]) (by decide+kernel)⟩
theorem aGc:B1 Go.Proofs.Tryz.prog 183 (.prim false (fX 3)):=⟨rfl,pP nR (zero:=[.int .i64 0,.int .i64 0,.int .i64 0]) (by decide+kernel)⟩
theorem aGd:B1 Go.Proofs.Tryz.prog 184 (.prim false (fX 5)):=⟨rfl,pP nR (zero:=[.int .i64 0,.int .i64 0,.int .i64 0,.int .i64 0,.int .i64 0]) (by decide+kernel)⟩
theorem aGe:B1 Go.Proofs.Tryz.prog 185 (.prim false (fX 1)):=⟨rfl,pP nR (zero:=[.int .i64 0]) (by decide+kernel)⟩
theorem aGf:B1 Go.Proofs.Tryz.prog 186 (.prim false (fX 1)):=⟨rfl,pP nR (zero:=[.bool false]) (by decide+kernel)⟩
theorem aGg:B1 Go.Proofs.Tryz.prog 242 (.prim false FE):=⟨rfl,VK Go.Proofs.Tryz.func242 (by kernel_rfl) (by kernel_rfl) (by kernel_rfl) (by kernel_rfl)⟩
theorem aGh:B1 Go.Proofs.Tryz.prog 306 (.prim false (fX 1)):=⟨rfl,pP nR (zero:=[.int .i64 0]) (by decide+kernel)⟩
noncomputable def aQP:TT:= .node 167 (.node 99 (.node 58 (.node 38 (.node 27 (.node 13 (.node 11 (.leaf 8 (.code x8)) (.node 12 (.leaf 11 (.code x11)) (.leaf 12 (.code x12)))) (.node 21 (.leaf 13 (.code x13)) (.node 23 (.leaf 21 (.code x21)) (.leaf 23 (.code x23))))) (.node 33 (.node 29 (.leaf 27 (.code x27)) (.node 30 (.leaf 29 (.code x29)) (.leaf 30 (.code x30)))) (.node 35 (.leaf 33 (.code x33)) (.node 36 (.leaf 35 (.code x35)) (.leaf 36 (.code x36)))))) (.node 46 (.node 43 (.node 40 (.leaf 38 (.code x38)) (.node 42 (.leaf 40 (.code x40)) (.leaf 42 (.code x42)))) (.node 44 (.leaf 43 (.code x43)) (.node 45 (.leaf 44 (.code x44)) (.leaf 45 (.code x45))))) (.node 52 (.node 47 (.leaf 46 (.code x46)) (.node 48 (.leaf 47 (.code x47)) (.leaf 48 (.code x48)))) (.node 54 (.node 53 (.leaf 52 (.code x52)) (.leaf 53 (.code x53))) (.node 57 (.leaf 54 (.code x54)) (.leaf 57 (.code x57))))))) (.node 80 (.node 71 (.node 68 (.node 66 (.leaf 58 (.code x58)) (.node 67 (.leaf 66 (.code x66)) (.leaf 67 (.code x67)))) (.node 69 (.leaf 68 (.code x68)) (.node 70 (.leaf 69 (.code x69)) (.leaf 70 (.code x70))))) (.node 77 (.node 72 (.leaf 71 (.code x71)) (.node 73 (.leaf 72 (.code x72)) (.leaf 73 (.code x73)))) (.node 78 (.leaf 77 (.code x77)) (.node 79 (.leaf 78 (.code x78)) (.leaf 79 (.code x79)))))) (.node 89 (.node 86 (.node 81 (.leaf 80 (.code x80)) (.node 82 (.leaf 81 (.code x81)) (.leaf 82 (.code x82)))) (.node 87 (.leaf 86 (.code x86)) (.node 88 (.leaf 87 (.code x87)) (.leaf 88 (.code x88))))) (.node 94 (.node 91 (.leaf 89 (.code x89)) (.node 92 (.leaf 91 (.code x91)) (.leaf 92 (.code x92)))) (.node 97 (.node 95 (.leaf 94 (.code x94)) (.leaf 95 (.code x95))) (.node 98 (.leaf 97 (.code x97)) (.leaf 98 (.code x98)))))))) (.node 131 (.node 115 (.node 105 (.node 102 (.node 100 (.leaf 99 (.code x99)) (.node 101 (.leaf 100 (.code aMd)) (.leaf 101 (.code aMe)))) (.node 103 (.leaf 102 (.shp (PJ 3))) (.node 104 (.leaf 103 (.prim false (fX 3))) (.leaf 104 (.code aMf))))) (.node 109 (.node 106 (.leaf 105 (.code aMg)) (.node 108 (.leaf 106 (.code aMh)) (.leaf 108 (.code aMi)))) (.node 110 (.leaf 109 (.code aMj)) (.node 111 (.leaf 110 (.code aMk)) (.leaf 111 (.code aMl)))))) (.node 121 (.node 118 (.node 116 (.leaf 115 (.code aMm)) (.node 117 (.leaf 116 (.code aMn)) (.leaf 117 (.code aMo)))) (.node 119 (.leaf 118 (.code aMp)) (.node 120 (.leaf 119 (.code aMq)) (.leaf 120 (.code aMr))))) (.node 125 (.node 122 (.leaf 121 (.code aMs)) (.node 124 (.leaf 122 (.code aMt)) (.leaf 124 (.code aMu)))) (.node 129 (.node 128 (.leaf 125 (.code aMv)) (.leaf 128 (.code aMw))) (.node 130 (.leaf 129 (.code aMx)) (.leaf 130 (.code aMy))))))) (.node 150 (.node 139 (.node 134 (.node 132 (.leaf 131 (.code aMz)) (.node 133 (.leaf 132 (.code aMA)) (.leaf 133 (.code aMB)))) (.node 135 (.leaf 134 (.code aMC)) (.node 136 (.leaf 135 (.code aMD)) (.leaf 136 (.code aME))))) (.node 146 (.node 144 (.leaf 139 (.code aMF)) (.node 145 (.leaf 144 (.code aMG)) (.leaf 145 (.code aMH)))) (.node 148 (.node 147 (.leaf 146 (.code aMI)) (.leaf 147 (.code aMJ))) (.node 149 (.leaf 148 (.code aMK)) (.leaf 149 (.code aML)))))) (.node 156 (.node 153 (.node 151 (.leaf 150 (.code aMM)) (.node 152 (.leaf 151 (.code aMN)) (.leaf 152 (.code aMO)))) (.node 154 (.leaf 153 (.code aMP)) (.node 155 (.leaf 154 (.code aMQ)) (.leaf 155 (.code aMR))))) (.node 163 (.node 157 (.leaf 156 (.code aMS)) (.node 160 (.leaf 157 (.code aMT)) (.leaf 160 (.code aMU)))) (.node 165 (.node 164 (.leaf 163 (.code aMV)) (.leaf 164 (.code aMW))) (.node 166 (.leaf 165 (.code aMX)) (.leaf 166 (.code aMY))))))))) (.node 226 (.node 197 (.node 181 (.node 174 (.node 170 (.node 168 (.leaf 167 (.code aMZ)) (.node 169 (.leaf 168 (.code aM0)) (.leaf 169 (.code aM1)))) (.node 171 (.leaf 170 (.code aM2)) (.node 173 (.leaf 171 (.code aM3)) (.leaf 173 (.code aM4))))) (.node 178 (.node 175 (.leaf 174 (.code aM5)) (.node 176 (.leaf 175 (.code aM6)) (.leaf 176 (.code aM7)))) (.node 179 (.leaf 178 (.code aM8)) (.node 180 (.leaf 179 (.code aM9)) (.leaf 180 (.code aNa)))))) (.node 189 (.node 184 (.node 182 (.leaf 181 (.code aNb)) (.node 183 (.leaf 182 (.prim false (fX 3))) (.leaf 183 (.prim false (fX 3))))) (.node 185 (.leaf 184 (.prim false (fX 5))) (.node 186 (.leaf 185 (.prim false (fX 1))) (.leaf 186 (.prim false (fX 1)))))) (.node 192 (.node 190 (.leaf 189 (.code aNc)) (.node 191 (.leaf 190 (.code aNd)) (.leaf 191 (.code aNe)))) (.node 194 (.node 193 (.leaf 192 (.code aNf)) (.leaf 193 (.code aNg))) (.node 195 (.leaf 194 (.code aNh)) (.leaf 195 (.code aNi))))))) (.node 213 (.node 204 (.node 201 (.node 199 (.leaf 197 (.code aNj)) (.node 200 (.leaf 199 (.code aNk)) (.leaf 200 (.code aNl)))) (.node 202 (.leaf 201 (.code aNm)) (.node 203 (.leaf 202 (.code aNn)) (.leaf 203 (.code aNo))))) (.node 207 (.node 205 (.leaf 204 (.code aNp)) (.node 206 (.leaf 205 (.code aNq)) (.leaf 206 (.code aNr)))) (.node 211 (.node 209 (.leaf 207 (.code aNs)) (.leaf 209 (.code aNt))) (.node 212 (.leaf 211 (.code aNu)) (.leaf 212 (.code aNv)))))) (.node 219 (.node 216 (.node 214 (.leaf 213 (.code aNw)) (.node 215 (.leaf 214 (.code aNx)) (.leaf 215 (.code aNy)))) (.node 217 (.leaf 216 (.code aNz)) (.node 218 (.leaf 217 (.code aNA)) (.leaf 218 (.code aNB))))) (.node 222 (.node 220 (.leaf 219 (.code aNC)) (.node 221 (.leaf 220 (.code aND)) (.leaf 221 (.code aNE)))) (.node 224 (.node 223 (.leaf 222 (.code aNF)) (.leaf 223 (.code aNG))) (.node 225 (.leaf 224 (.code aNH)) (.leaf 225 (.code aNI)))))))) (.node 271 (.node 256 (.node 242 (.node 229 (.node 227 (.leaf 226 (.code aNJ)) (.node 228 (.leaf 227 (.code aNK)) (.leaf 228 (.code aNL)))) (.node 230 (.leaf 229 (.code aNM)) (.node 241 (.leaf 230 (.code aNN)) (.leaf 241 (.code aNO))))) (.node 253 (.node 243 (.leaf 242 (.prim false FE)) (.node 252 (.leaf 243 (.code aNP)) (.leaf 252 (.code aNQ)))) (.node 254 (.leaf 253 (.code aNR)) (.node 255 (.leaf 254 (.code aNS)) (.leaf 255 (.code aNT)))))) (.node 264 (.node 259 (.node 257 (.leaf 256 (.code aNU)) (.node 258 (.leaf 257 (.code aNV)) (.leaf 258 (.code aNW)))) (.node 260 (.leaf 259 (.code aNX)) (.node 263 (.leaf 260 (.code aNY)) (.leaf 263 (.code aNZ))))) (.node 267 (.node 265 (.leaf 264 (.code aN0)) (.node 266 (.leaf 265 (.code aN1)) (.leaf 266 (.code aN2)))) (.node 269 (.node 268 (.leaf 267 (.code aFC)) (.leaf 268 (.code aFE))) (.node 270 (.leaf 269 (.code aN3)) (.leaf 270 (.code aN4))))))) (.node 292 (.node 282 (.node 274 (.node 272 (.leaf 271 (.code aN5)) (.node 273 (.leaf 272 (.code aN6)) (.leaf 273 (.code aN7)))) (.node 275 (.leaf 274 (.code aN8)) (.node 276 (.leaf 275 (.code aAz)) (.leaf 276 (.code aN9))))) (.node 288 (.node 286 (.leaf 282 (.code aOa)) (.node 287 (.leaf 286 (.code aOb)) (.leaf 287 (.code aOc)))) (.node 290 (.node 289 (.leaf 288 (.code aOd)) (.leaf 289 (.code aOe))) (.node 291 (.leaf 290 (.code aOf)) (.leaf 291 (.code aOg)))))) (.node 298 (.node 295 (.node 293 (.leaf 292 (.code aOh)) (.node 294 (.leaf 293 (.code aOi)) (.leaf 294 (.code aOj)))) (.node 296 (.leaf 295 (.code aOk)) (.node 297 (.leaf 296 (.code aFZ)) (.leaf 297 (.code aOl))))) (.node 302 (.node 299 (.leaf 298 (.code aB7)) (.node 300 (.leaf 299 (.code aOm)) (.leaf 300 (.code aOn)))) (.node 305 (.node 304 (.leaf 302 (.code aOo)) (.leaf 304 (.code aOp))) (.node 306 (.leaf 305 (.code aOq)) (.leaf 306 (.prim false (fX 1))))))))))
theorem YL:aQP.All (B1 Go.Proofs.Tryz.prog):=⟨⟨⟨⟨⟨⟨⟨aQO,⟨aLp,aLq⟩⟩,⟨aLr,⟨aLs,aLt⟩⟩⟩,⟨⟨aLu,⟨aLv,aLw⟩⟩,⟨aLx,⟨aLy,aLz⟩⟩⟩⟩,⟨⟨⟨aLA,⟨aLB,aLC⟩⟩,⟨aLD,⟨aLE,aLF⟩⟩⟩,⟨⟨aLG,⟨aLH,aLI⟩⟩,⟨⟨aLJ,aLK⟩,⟨aLL,aLM⟩⟩⟩⟩⟩,⟨⟨⟨⟨aLN,⟨aLO,aLP⟩⟩,⟨aLQ,⟨aLR,aLS⟩⟩⟩,⟨⟨aLT,⟨aLU,aLV⟩⟩,⟨aLW,⟨aLX,aLY⟩⟩⟩⟩,⟨⟨⟨aLZ,⟨aL0,aL1⟩⟩,⟨aL2,⟨aL3,aL4⟩⟩⟩,⟨⟨aL5,⟨aL6,aL7⟩⟩,⟨⟨aL8,aL9⟩,⟨aMa,aMb⟩⟩⟩⟩⟩⟩,⟨⟨⟨⟨⟨aMc,⟨aDM,aDN⟩⟩,⟨aF9,⟨aGa,aDO⟩⟩⟩,⟨⟨aDP,⟨aDQ,aDR⟩⟩,⟨aDS,⟨aDT,aDU⟩⟩⟩⟩,⟨⟨⟨aDV,⟨aDW,aDX⟩⟩,⟨aDY,⟨aDZ,aD0⟩⟩⟩,⟨⟨aD1,⟨aD2,aD3⟩⟩,⟨⟨aD4,aD5⟩,⟨aD6,aD7⟩⟩⟩⟩⟩,⟨⟨⟨⟨aD8,⟨aD9,aEa⟩⟩,⟨aEb,⟨aEc,aEd⟩⟩⟩,⟨⟨aEe,⟨aEf,aEg⟩⟩,⟨⟨aEh,aEi⟩,⟨aEj,aEk⟩⟩⟩⟩,⟨⟨⟨aEl,⟨aEm,aEn⟩⟩,⟨aEo,⟨aEp,aEq⟩⟩⟩,⟨⟨aEr,⟨aEs,aEt⟩⟩,⟨⟨aEu,aEv⟩,⟨aEw,aEx⟩⟩⟩⟩⟩⟩⟩,⟨⟨⟨⟨⟨⟨aEy,⟨aEz,aEA⟩⟩,⟨aEB,⟨aEC,aED⟩⟩⟩,⟨⟨aEE,⟨aEF,aEG⟩⟩,⟨aEH,⟨aEI,aEJ⟩⟩⟩⟩,⟨⟨⟨aEK,⟨aGb,aGc⟩⟩,⟨aGd,⟨aGe,aGf⟩⟩⟩,⟨⟨aEL,⟨aEM,aEN⟩⟩,⟨⟨aEO,aEP⟩,⟨aEQ,aER⟩⟩⟩⟩⟩,⟨⟨⟨⟨aES,⟨aET,aEU⟩⟩,⟨aEV,⟨aEW,aEX⟩⟩⟩,⟨⟨aEY,⟨aEZ,aE0⟩⟩,⟨⟨aE1,aE2⟩,⟨aE3,aE4⟩⟩⟩⟩,⟨⟨⟨aE5,⟨aE6,aE7⟩⟩,⟨aE8,⟨aE9,aFa⟩⟩⟩,⟨⟨aFb,⟨aFc,aFd⟩⟩,⟨⟨aFe,aFf⟩,⟨aFg,aFh⟩⟩⟩⟩⟩⟩,⟨⟨⟨⟨⟨aFi,⟨aFj,aFk⟩⟩,⟨aFl,⟨aFm,aFn⟩⟩⟩,⟨⟨aGg,⟨aFo,aFp⟩⟩,⟨aFq,⟨aFr,aFs⟩⟩⟩⟩,⟨⟨⟨aFt,⟨aFu,aFv⟩⟩,⟨aFw,⟨aFx,aFy⟩⟩⟩,⟨⟨aFz,⟨aFA,aFB⟩⟩,⟨⟨aFD,aFF⟩,⟨aFG,aFH⟩⟩⟩⟩⟩,⟨⟨⟨⟨aFI,⟨aFJ,aFK⟩⟩,⟨aFL,⟨aFM,aFN⟩⟩⟩,⟨⟨aFO,⟨aFP,aFQ⟩⟩,⟨⟨aFR,aFS⟩,⟨aFT,aFU⟩⟩⟩⟩,⟨⟨⟨aFV,⟨aFW,aFX⟩⟩,⟨aFY,⟨aF0,aF1⟩⟩⟩,⟨⟨aF2,⟨aF3,aF4⟩⟩,⟨⟨aF5,aF6⟩,⟨aF7,aGh⟩⟩⟩⟩⟩⟩⟩⟩
noncomputable def tab:pO:=aQP.get
theorem aKZ:tab 8=some (.code x8):=rfl
theorem aOs:tab 11=some (.code x11):=rfl
theorem aOt:tab 12=some (.code x12):=rfl
theorem aOu:tab 13=some (.code x13):=rfl
theorem aOv:tab 21=some (.code x21):=rfl
theorem aOw:tab 23=some (.code x23):=rfl
theorem aOx:tab 27=some (.code x27):=rfl
theorem aOy:tab 29=some (.code x29):=rfl
theorem aOz:tab 30=some (.code x30):=rfl
theorem aOA:tab 33=some (.code x33):=rfl
theorem aOB:tab 35=some (.code x35):=rfl
theorem aOC:tab 36=some (.code x36):=rfl
theorem aOD:tab 38=some (.code x38):=rfl
theorem aOE:tab 40=some (.code x40):=rfl
theorem aOF:tab 42=some (.code x42):=rfl
theorem aOG:tab 43=some (.code x43):=rfl
theorem aOH:tab 44=some (.code x44):=rfl
theorem aOI:tab 45=some (.code x45):=rfl
theorem aOJ:tab 46=some (.code x46):=rfl
theorem aOK:tab 47=some (.code x47):=rfl
theorem aOL:tab 48=some (.code x48):=rfl
theorem aOM:tab 52=some (.code x52):=rfl
theorem aON:tab 53=some (.code x53):=rfl
theorem aOO:tab 54=some (.code x54):=rfl
theorem aOP:tab 57=some (.code x57):=rfl
theorem aOQ:tab 58=some (.code x58):=rfl
theorem aOR:tab 66=some (.code x66):=rfl
theorem aOS:tab 67=some (.code x67):=rfl
theorem aOT:tab 68=some (.code x68):=rfl
theorem aOU:tab 69=some (.code x69):=rfl
theorem aOV:tab 70=some (.code x70):=rfl
theorem aOW:tab 71=some (.code x71):=rfl
theorem aOX:tab 72=some (.code x72):=rfl
theorem aOY:tab 73=some (.code x73):=rfl
theorem aOZ:tab 77=some (.code x77):=rfl
theorem aO0:tab 78=some (.code x78):=rfl
theorem aO1:tab 79=some (.code x79):=rfl
theorem aO2:tab 80=some (.code x80):=rfl
theorem aO3:tab 81=some (.code x81):=rfl
theorem aO4:tab 82=some (.code x82):=rfl
theorem aO5:tab 86=some (.code x86):=rfl
theorem aO6:tab 87=some (.code x87):=rfl
theorem aO7:tab 88=some (.code x88):=rfl
theorem aCa:tab 89=some (.code x89):=rfl
theorem WA:tab 91=some (.code x91):=rfl
theorem aO8:tab 92=some (.code x92):=rfl
theorem aO9:tab 94=some (.code x94):=rfl
theorem aPa:tab 95=some (.code x95):=rfl
theorem aPb:tab 97=some (.code x97):=rfl
theorem aPc:tab 98=some (.code x98):=rfl
theorem aPd:tab 99=some (.code x99):=rfl
theorem aGi:tab 100=some (.code aMd):=rfl
theorem aGj:tab 101=some (.code aMe):=rfl
theorem aGk:tab 102=some (.shp (PJ 3)):=rfl
theorem aGl:tab 103=some (.prim false (fX 3)):=rfl
theorem aGm:tab 104=some (.code aMf):=rfl
theorem aGn:tab 105=some (.code aMg):=rfl
theorem aGo:tab 106=some (.code aMh):=rfl
theorem aGp:tab 108=some (.code aMi):=rfl
theorem aGq:tab 109=some (.code aMj):=rfl
theorem aGr:tab 110=some (.code aMk):=rfl
theorem aGs:tab 111=some (.code aMl):=rfl
theorem aGt:tab 115=some (.code aMm):=rfl
theorem aGu:tab 116=some (.code aMn):=rfl
theorem aGv:tab 117=some (.code aMo):=rfl
theorem aGw:tab 118=some (.code aMp):=rfl
theorem aGx:tab 119=some (.code aMq):=rfl
theorem aGy:tab 120=some (.code aMr):=rfl
theorem aGz:tab 121=some (.code aMs):=rfl
theorem aGA:tab 122=some (.code aMt):=rfl
theorem aGB:tab 124=some (.code aMu):=rfl
theorem YM:tab 125=some (.code aMv):=rfl
theorem aGC:tab 128=some (.code aMw):=rfl
theorem aGD:tab 129=some (.code aMx):=rfl
theorem aGE:tab 130=some (.code aMy):=rfl
theorem aGF:tab 131=some (.code aMz):=rfl
theorem aGG:tab 132=some (.code aMA):=rfl
theorem aGH:tab 133=some (.code aMB):=rfl
theorem aGI:tab 134=some (.code aMC):=rfl
theorem aGJ:tab 135=some (.code aMD):=rfl
theorem aGK:tab 136=some (.code aME):=rfl
theorem aGL:tab 139=some (.code aMF):=rfl
theorem aGM:tab 144=some (.code aMG):=rfl
theorem aGN:tab 145=some (.code aMH):=rfl
theorem aGO:tab 146=some (.code aMI):=rfl
theorem YN:tab 147=some (.code aMJ):=rfl
theorem YO:tab 148=some (.code aMK):=rfl
theorem YP:tab 149=some (.code aML):=rfl
theorem aGP:tab 150=some (.code aMM):=rfl
theorem aGQ:tab 151=some (.code aMN):=rfl
theorem aGR:tab 152=some (.code aMO):=rfl
theorem aGS:tab 153=some (.code aMP):=rfl
theorem aGT:tab 154=some (.code aMQ):=rfl
theorem YQ:tab 155=some (.code aMR):=rfl
theorem aGU:tab 156=some (.code aMS):=rfl
theorem aGV:tab 157=some (.code aMT):=rfl
theorem aGW:tab 160=some (.code aMU):=rfl
theorem aGX:tab 163=some (.code aMV):=rfl
theorem aGY:tab 164=some (.code aMW):=rfl
theorem aGZ:tab 165=some (.code aMX):=rfl
theorem YR:tab 166=some (.code aMY):=rfl
theorem aG0:tab 167=some (.code aMZ):=rfl
theorem aG1:tab 168=some (.code aM0):=rfl
theorem aG2:tab 169=some (.code aM1):=rfl
theorem aG3:tab 170=some (.code aM2):=rfl
theorem QF:tab 171=some (.code aM3):=rfl
theorem aG4:tab 173=some (.code aM4):=rfl
theorem aG5:tab 174=some (.code aM5):=rfl
theorem aG6:tab 175=some (.code aM6):=rfl
theorem aG7:tab 176=some (.code aM7):=rfl
theorem aG8:tab 178=some (.code aM8):=rfl
theorem aG9:tab 179=some (.code aM9):=rfl
theorem aHa:tab 180=some (.code aNa):=rfl
theorem aHb:tab 181=some (.code aNb):=rfl
theorem aHc:tab 182=some (.prim false (fX 3)):=rfl
theorem aHd:tab 183=some (.prim false (fX 3)):=rfl
theorem aHe:tab 184=some (.prim false (fX 5)):=rfl
theorem aHf:tab 185=some (.prim false (fX 1)):=rfl
theorem aHg:tab 186=some (.prim false (fX 1)):=rfl
theorem aHh:tab 189=some (.code aNc):=rfl
theorem aHi:tab 190=some (.code aNd):=rfl
theorem aHj:tab 191=some (.code aNe):=rfl
theorem aHk:tab 192=some (.code aNf):=rfl
theorem aHl:tab 193=some (.code aNg):=rfl
theorem aHm:tab 194=some (.code aNh):=rfl
theorem aHn:tab 195=some (.code aNi):=rfl
theorem aHo:tab 197=some (.code aNj):=rfl
theorem aHp:tab 199=some (.code aNk):=rfl
theorem aHq:tab 200=some (.code aNl):=rfl
theorem aHr:tab 201=some (.code aNm):=rfl
theorem YS:tab 202=some (.code aNn):=rfl
theorem aHs:tab 203=some (.code aNo):=rfl
theorem aHt:tab 204=some (.code aNp):=rfl
theorem aHu:tab 205=some (.code aNq):=rfl
theorem aHv:tab 206=some (.code aNr):=rfl
theorem aHw:tab 207=some (.code aNs):=rfl
theorem aHx:tab 209=some (.code aNt):=rfl
theorem aHy:tab 211=some (.code aNu):=rfl
theorem aHz:tab 212=some (.code aNv):=rfl
theorem aHA:tab 213=some (.code aNw):=rfl
theorem aHB:tab 214=some (.code aNx):=rfl
theorem aHC:tab 215=some (.code aNy):=rfl
theorem aHD:tab 216=some (.code aNz):=rfl
theorem aHE:tab 217=some (.code aNA):=rfl
theorem aHF:tab 218=some (.code aNB):=rfl
theorem aHG:tab 219=some (.code aNC):=rfl
theorem aHH:tab 220=some (.code aND):=rfl
theorem aHI:tab 221=some (.code aNE):=rfl
theorem QG:tab 222=some (.code aNF):=rfl
theorem aHJ:tab 223=some (.code aNG):=rfl
theorem aHK:tab 224=some (.code aNH):=rfl
theorem aHL:tab 225=some (.code aNI):=rfl
theorem aHM:tab 226=some (.code aNJ):=rfl
theorem aHN:tab 227=some (.code aNK):=rfl
theorem aHO:tab 228=some (.code aNL):=rfl
theorem aHP:tab 229=some (.code aNM):=rfl
theorem aHQ:tab 230=some (.code aNN):=rfl
theorem aHR:tab 241=some (.code aNO):=rfl
theorem aHS:tab 242=some (.prim false FE):=rfl
theorem aHT:tab 243=some (.code aNP):=rfl
theorem aHU:tab 252=some (.code aNQ):=rfl
theorem aHV:tab 253=some (.code aNR):=rfl
theorem aHW:tab 254=some (.code aNS):=rfl
theorem aHX:tab 255=some (.code aNT):=rfl
theorem aHY:tab 256=some (.code aNU):=rfl
theorem aHZ:tab 257=some (.code aNV):=rfl
theorem aH0:tab 258=some (.code aNW):=rfl
theorem aH1:tab 259=some (.code aNX):=rfl
theorem aH2:tab 260=some (.code aNY):=rfl
theorem aH3:tab 263=some (.code aNZ):=rfl
theorem aH4:tab 264=some (.code aN0):=rfl
theorem aH5:tab 265=some (.code aN1):=rfl
theorem aH6:tab 266=some (.code aN2):=rfl
theorem aH7:tab 267=some (.code aFC):=rfl
theorem aH8:tab 268=some (.code aFE):=rfl
theorem aH9:tab 269=some (.code aN3):=rfl
theorem aIa:tab 270=some (.code aN4):=rfl
theorem aIb:tab 271=some (.code aN5):=rfl
theorem aIc:tab 272=some (.code aN6):=rfl
theorem aId:tab 273=some (.code aN7):=rfl
theorem aIe:tab 274=some (.code aN8):=rfl
theorem QH:tab 275=some (.code aAz):=rfl
theorem YT:tab 276=some (.code aN9):=rfl
theorem aIf:tab 282=some (.code aOa):=rfl
theorem QI:tab 286=some (.code aOb):=rfl
theorem aIg:tab 287=some (.code aOc):=rfl
theorem YU:tab 288=some (.code aOd):=rfl
theorem QJ:tab 289=some (.code aOe):=rfl
theorem aIh:tab 290=some (.code aOf):=rfl
theorem aIi:tab 291=some (.code aOg):=rfl
theorem aIj:tab 292=some (.code aOh):=rfl
theorem aIk:tab 293=some (.code aOi):=rfl
theorem aIl:tab 294=some (.code aOj):=rfl
theorem aIm:tab 295=some (.code aOk):=rfl
theorem aIn:tab 296=some (.code aFZ):=rfl
theorem aIo:tab 297=some (.code aOl):=rfl
theorem YV:tab 298=some (.code aB7):=rfl
theorem aIp:tab 299=some (.code aOm):=rfl
theorem YW:tab 300=some (.code aOn):=rfl
theorem aIq:tab 302=some (.code aOo):=rfl
theorem aIr:tab 304=some (.code aOp):=rfl
theorem aIs:tab 305=some (.code aOq):=rfl
theorem aIt:tab 306=some (.prim false (fX 1)):=rfl
end Go.Proofs.YthljmpcakagceaaGreat
