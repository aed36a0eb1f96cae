/- The table of the seat's functions. Printed by a program. -/
import Derived.Test.YthljmpcakagceaaGreatEQX1
import Derived.Test.YthljmpcakagceaaGreatChecked
set_option maxRecDepth 100000
namespace Go.Proofs.YthljmpcakagceaaGreat
open Go.Vm
theorem nB:Go.Proofs.Tryz.prog.follows .mixedOrders=true:=Go.Proofs.Tryz.checked.mixed
theorem aFE:CW Go.Proofs.Tryz.prog 103 (.prim false (fX 3)):=⟨rfl,oT nB (zero:=[.int .i64 0,.int .i64 0,.int .i64 0]) (by decide+kernel)⟩
theorem aFF:CW Go.Proofs.Tryz.prog 182 (.prim false (fX 3)):=⟨rfl,oT nB (zero:=[.int .i64 0,.int .i64 0,.int .i64 0]) (by decide+kernel)⟩
theorem aFG:CW Go.Proofs.Tryz.prog 183 (.prim false (fX 3)):=⟨rfl,oT nB (zero:=[.int .i64 0,.int .i64 0,.int .i64 0]) (by decide+kernel)⟩
theorem aFH:CW Go.Proofs.Tryz.prog 184 (.prim false (fX 5)):=⟨rfl,oT nB (zero:=[.int .i64 0,.int .i64 0,.int .i64 0,.int .i64 0,.int .i64 0]) (by decide+kernel)⟩
theorem aFI:CW Go.Proofs.Tryz.prog 185 (.prim false (fX 1)):=⟨rfl,oT nB (zero:=[.int .i64 0]) (by decide+kernel)⟩
theorem aFJ:CW Go.Proofs.Tryz.prog 186 (.prim false (fX 1)):=⟨rfl,oT nB (zero:=[.bool false]) (by decide+kernel)⟩
theorem aFK:CW Go.Proofs.Tryz.prog 242 (.prim false FC):=⟨rfl,U8 Go.Proofs.Tryz.func242 (by kernel_rfl) (by kernel_rfl) (by kernel_rfl) (by kernel_rfl)⟩
theorem aFL:CW Go.Proofs.Tryz.prog 306 (.prim false (fX 1)):=⟨rfl,oT nB (zero:=[.int .i64 0]) (by decide+kernel)⟩
noncomputable def aPH:TT:= .node 169 (.node 88 (.node 52 (.node 24 (.node 15 (.node 12 (.node 10 (.leaf 4 (.code x4)) (.node 11 (.leaf 10 (.code x10)) (.leaf 11 (.code x11)))) (.node 13 (.leaf 12 (.code x12)) (.node 14 (.leaf 13 (.code x13)) (.leaf 14 (.code x14))))) (.node 21 (.node 19 (.leaf 15 (.code x15)) (.node 20 (.leaf 19 (.code x19)) (.leaf 20 (.code x20)))) (.node 22 (.leaf 21 (.code x21)) (.node 23 (.leaf 22 (.code x22)) (.leaf 23 (.code x23)))))) (.node 30 (.node 27 (.node 25 (.leaf 24 (.code x24)) (.node 26 (.leaf 25 (.code x25)) (.leaf 26 (.code x26)))) (.node 28 (.leaf 27 (.code x27)) (.node 29 (.leaf 28 (.code x28)) (.leaf 29 (.code x29))))) (.node 36 (.node 34 (.leaf 30 (.code x30)) (.node 35 (.leaf 34 (.code x34)) (.leaf 35 (.code x35)))) (.node 50 (.leaf 36 (.code x36)) (.node 51 (.leaf 50 (.code x50)) (.leaf 51 (.code x51))))))) (.node 71 (.node 58 (.node 55 (.node 53 (.leaf 52 (.code x52)) (.node 54 (.leaf 53 (.code x53)) (.leaf 54 (.code x54)))) (.node 56 (.leaf 55 (.code x55)) (.node 57 (.leaf 56 (.code x56)) (.leaf 57 (.code x57))))) (.node 68 (.node 66 (.leaf 58 (.code x58)) (.node 67 (.leaf 66 (.code x66)) (.leaf 67 (.code x67)))) (.node 69 (.leaf 68 (.code x68)) (.node 70 (.leaf 69 (.code x69)) (.leaf 70 (.code x70)))))) (.node 77 (.node 74 (.node 72 (.leaf 71 (.code x71)) (.node 73 (.leaf 72 (.code x72)) (.leaf 73 (.code x73)))) (.node 75 (.leaf 74 (.code x74)) (.node 76 (.leaf 75 (.code x75)) (.leaf 76 (.code x76))))) (.node 80 (.node 78 (.leaf 77 (.code x77)) (.node 79 (.leaf 78 (.code x78)) (.leaf 79 (.code x79)))) (.node 82 (.node 81 (.leaf 80 (.code x80)) (.leaf 81 (.code x81))) (.node 87 (.leaf 82 (.code x82)) (.leaf 87 (.code x87)))))))) (.node 127 (.node 115 (.node 106 (.node 101 (.node 99 (.leaf 88 (.code x88)) (.node 100 (.leaf 99 (.code x99)) (.leaf 100 (.code aLd)))) (.node 103 (.leaf 101 (.code aLe)) (.node 104 (.leaf 103 (.prim false (fX 3))) (.leaf 104 (.code aLf))))) (.node 109 (.node 107 (.leaf 106 (.code aLg)) (.node 108 (.leaf 107 (.code aLh)) (.leaf 108 (.code aLi)))) (.node 110 (.leaf 109 (.code aLj)) (.node 111 (.leaf 110 (.code aLk)) (.leaf 111 (.code aLl)))))) (.node 121 (.node 118 (.node 116 (.leaf 115 (.code aLm)) (.node 117 (.leaf 116 (.code aLn)) (.leaf 117 (.code aLo)))) (.node 119 (.leaf 118 (.code aLp)) (.node 120 (.leaf 119 (.code aLq)) (.leaf 120 (.code aLr))))) (.node 124 (.node 122 (.leaf 121 (.code aLs)) (.node 123 (.leaf 122 (.code aLt)) (.leaf 123 (.code aLu)))) (.node 125 (.leaf 124 (.code aLv)) (.node 126 (.leaf 125 (.code aLw)) (.leaf 126 (.code aLx))))))) (.node 154 (.node 133 (.node 130 (.node 128 (.leaf 127 (.code aBJ)) (.node 129 (.leaf 128 (.code aLy)) (.leaf 129 (.code aLz)))) (.node 131 (.leaf 130 (.code aLA)) (.node 132 (.leaf 131 (.code aLB)) (.leaf 132 (.code aLC))))) (.node 136 (.node 134 (.leaf 133 (.code aLD)) (.node 135 (.leaf 134 (.code aLE)) (.leaf 135 (.code aLF)))) (.node 139 (.leaf 136 (.code aLG)) (.node 146 (.leaf 139 (.code aLH)) (.leaf 146 (.code aLI)))))) (.node 162 (.node 157 (.node 155 (.leaf 154 (.code aLJ)) (.node 156 (.leaf 155 (.code aLK)) (.leaf 156 (.code aLL)))) (.node 160 (.leaf 157 (.code aLM)) (.node 161 (.leaf 160 (.code aLN)) (.leaf 161 (.code aLO))))) (.node 165 (.node 163 (.leaf 162 (.code aLP)) (.node 164 (.leaf 163 (.code aLQ)) (.leaf 164 (.code aLR)))) (.node 167 (.node 166 (.leaf 165 (.code aLS)) (.leaf 166 (.code aLT))) (.node 168 (.leaf 167 (.code aLU)) (.leaf 168 (.code aLV))))))))) (.node 229 (.node 194 (.node 182 (.node 176 (.node 173 (.node 170 (.leaf 169 (.code aLW)) (.node 171 (.leaf 170 (.code aLX)) (.leaf 171 (.code aLY)))) (.node 174 (.leaf 173 (.code aLZ)) (.node 175 (.leaf 174 (.code aL0)) (.leaf 175 (.code aL1))))) (.node 179 (.node 177 (.leaf 176 (.code aL2)) (.node 178 (.leaf 177 (.code aL3)) (.leaf 178 (.code aL4)))) (.node 180 (.leaf 179 (.code aL5)) (.node 181 (.leaf 180 (.code aL6)) (.leaf 181 (.code aL7)))))) (.node 188 (.node 185 (.node 183 (.leaf 182 (.prim false (fX 3))) (.node 184 (.leaf 183 (.prim false (fX 3))) (.leaf 184 (.prim false (fX 5))))) (.node 186 (.leaf 185 (.prim false (fX 1))) (.node 187 (.leaf 186 (.prim false (fX 1))) (.leaf 187 (.code aL8))))) (.node 191 (.node 189 (.leaf 188 (.code aL9)) (.node 190 (.leaf 189 (.code aMa)) (.leaf 190 (.code aMb)))) (.node 192 (.leaf 191 (.code aMc)) (.node 193 (.leaf 192 (.code aMd)) (.leaf 193 (.code aMe))))))) (.node 216 (.node 210 (.node 201 (.node 195 (.leaf 194 (.code aMf)) (.node 197 (.leaf 195 (.code aMg)) (.leaf 197 (.code aMh)))) (.node 207 (.leaf 201 (.code aMi)) (.node 209 (.leaf 207 (.code aMj)) (.leaf 209 (.code aMk))))) (.node 213 (.node 211 (.leaf 210 (.code aMl)) (.node 212 (.leaf 211 (.code aMm)) (.leaf 212 (.code aMn)))) (.node 214 (.leaf 213 (.code aMo)) (.node 215 (.leaf 214 (.code aMp)) (.leaf 215 (.code aMq)))))) (.node 222 (.node 219 (.node 217 (.leaf 216 (.code aMr)) (.node 218 (.leaf 217 (.code aMs)) (.leaf 218 (.code aMt)))) (.node 220 (.leaf 219 (.code aMu)) (.node 221 (.leaf 220 (.code aMv)) (.leaf 221 (.code aMw))))) (.node 225 (.node 223 (.leaf 222 (.code aMx)) (.node 224 (.leaf 223 (.code aMy)) (.leaf 224 (.code aMz)))) (.node 227 (.node 226 (.leaf 225 (.code aMA)) (.leaf 226 (.code aMB))) (.node 228 (.leaf 227 (.code aMC)) (.leaf 228 (.code aMD)))))))) (.node 272 (.node 241 (.node 235 (.node 232 (.node 230 (.leaf 229 (.code aME)) (.node 231 (.leaf 230 (.code aMF)) (.leaf 231 (.code aMG)))) (.node 233 (.leaf 232 (.code aMH)) (.node 234 (.leaf 233 (.code aMI)) (.leaf 234 (.code aMJ))))) (.node 238 (.node 236 (.leaf 235 (.code aMK)) (.node 237 (.leaf 236 (.code aML)) (.leaf 237 (.code aMM)))) (.node 239 (.leaf 238 (.code aMN)) (.node 240 (.leaf 239 (.code aMO)) (.leaf 240 (.code aMP)))))) (.node 265 (.node 262 (.node 242 (.leaf 241 (.code aMQ)) (.node 243 (.leaf 242 (.prim false FC)) (.leaf 243 (.code aMR)))) (.node 263 (.leaf 262 (.code aMS)) (.node 264 (.leaf 263 (.code aMT)) (.leaf 264 (.code aMU))))) (.node 268 (.node 266 (.leaf 265 (.code aMV)) (.node 267 (.leaf 266 (.code aMW)) (.leaf 267 (.code aE8)))) (.node 270 (.node 269 (.leaf 268 (.code aFa)) (.leaf 269 (.code aMX))) (.node 271 (.leaf 270 (.code aMY)) (.leaf 271 (.code aMZ))))))) (.node 293 (.node 278 (.node 275 (.node 273 (.leaf 272 (.code aM0)) (.node 274 (.leaf 273 (.code aM1)) (.leaf 274 (.code aM2)))) (.node 276 (.leaf 275 (.code aAc)) (.node 277 (.leaf 276 (.code aM3)) (.leaf 277 (.code aM4))))) (.node 281 (.node 279 (.leaf 278 (.code aM5)) (.node 280 (.leaf 279 (.code aM6)) (.leaf 280 (.code aM7)))) (.node 282 (.leaf 281 (.code aM8)) (.node 292 (.leaf 282 (.code aM9)) (.leaf 292 (.code aNa)))))) (.node 299 (.node 296 (.node 294 (.leaf 293 (.code aNb)) (.node 295 (.leaf 294 (.code aNc)) (.leaf 295 (.code aNd)))) (.node 297 (.leaf 296 (.code aFu)) (.node 298 (.leaf 297 (.code aNe)) (.leaf 298 (.code aBK))))) (.node 302 (.node 300 (.leaf 299 (.code aNf)) (.node 301 (.leaf 300 (.code aNg)) (.leaf 301 (.code aNh)))) (.node 305 (.node 304 (.leaf 302 (.code aNi)) (.leaf 304 (.code aNj))) (.node 306 (.leaf 305 (.code aNk)) (.leaf 306 (.prim false (fX 1))))))))))
theorem X3:aPH.All (CW Go.Proofs.Tryz.prog):=⟨⟨⟨⟨⟨⟨⟨aPG,⟨aKp,aKq⟩⟩,⟨aKr,⟨aKs,aKt⟩⟩⟩,⟨⟨aKu,⟨aKv,aKw⟩⟩,⟨aKx,⟨aKy,aKz⟩⟩⟩⟩,⟨⟨⟨aKA,⟨aKB,aKC⟩⟩,⟨aKD,⟨aKE,aKF⟩⟩⟩,⟨⟨aKG,⟨aKH,aKI⟩⟩,⟨aKJ,⟨aKK,aKL⟩⟩⟩⟩⟩,⟨⟨⟨⟨aKM,⟨aKN,aKO⟩⟩,⟨aKP,⟨aKQ,aKR⟩⟩⟩,⟨⟨aKS,⟨aKT,aKU⟩⟩,⟨aKV,⟨aKW,aKX⟩⟩⟩⟩,⟨⟨⟨aKY,⟨aKZ,aK0⟩⟩,⟨aK1,⟨aK2,aK3⟩⟩⟩,⟨⟨aK4,⟨aK5,aK6⟩⟩,⟨⟨aK7,aK8⟩,⟨aK9,aLa⟩⟩⟩⟩⟩⟩,⟨⟨⟨⟨⟨aLb,⟨aLc,aDn⟩⟩,⟨aDo,⟨aFE,aDp⟩⟩⟩,⟨⟨aDq,⟨aDr,aDs⟩⟩,⟨aDt,⟨aDu,aDv⟩⟩⟩⟩,⟨⟨⟨aDw,⟨aDx,aDy⟩⟩,⟨aDz,⟨aDA,aDB⟩⟩⟩,⟨⟨aDC,⟨aDD,aDE⟩⟩,⟨aDF,⟨aDG,aDH⟩⟩⟩⟩⟩,⟨⟨⟨⟨aDI,⟨aDJ,aDK⟩⟩,⟨aDL,⟨aDM,aDN⟩⟩⟩,⟨⟨aDO,⟨aDP,aDQ⟩⟩,⟨aDR,⟨aDS,aDT⟩⟩⟩⟩,⟨⟨⟨aDU,⟨aDV,aDW⟩⟩,⟨aDX,⟨aDY,aDZ⟩⟩⟩,⟨⟨aD0,⟨aD1,aD2⟩⟩,⟨⟨aD3,aD4⟩,⟨aD5,aD6⟩⟩⟩⟩⟩⟩⟩,⟨⟨⟨⟨⟨⟨aD7,⟨aD8,aD9⟩⟩,⟨aEa,⟨aEb,aEc⟩⟩⟩,⟨⟨aEd,⟨aEe,aEf⟩⟩,⟨aEg,⟨aEh,aEi⟩⟩⟩⟩,⟨⟨⟨aFF,⟨aFG,aFH⟩⟩,⟨aFI,⟨aFJ,aEj⟩⟩⟩,⟨⟨aEk,⟨aEl,aEm⟩⟩,⟨aEn,⟨aEo,aEp⟩⟩⟩⟩⟩,⟨⟨⟨⟨aEq,⟨aEr,aEs⟩⟩,⟨aEt,⟨aEu,aEv⟩⟩⟩,⟨⟨aEw,⟨aEx,aEy⟩⟩,⟨aEz,⟨aEA,aEB⟩⟩⟩⟩,⟨⟨⟨aEC,⟨aED,aEE⟩⟩,⟨aEF,⟨aEG,aEH⟩⟩⟩,⟨⟨aEI,⟨aEJ,aEK⟩⟩,⟨⟨aEL,aEM⟩,⟨aEN,aEO⟩⟩⟩⟩⟩⟩,⟨⟨⟨⟨⟨aEP,⟨aEQ,aER⟩⟩,⟨aES,⟨aET,aEU⟩⟩⟩,⟨⟨aEV,⟨aEW,aEX⟩⟩,⟨aEY,⟨aEZ,aE0⟩⟩⟩⟩,⟨⟨⟨aE1,⟨aFK,aE2⟩⟩,⟨aE3,⟨aE4,aE5⟩⟩⟩,⟨⟨aE6,⟨aE7,aE9⟩⟩,⟨⟨aFb,aFc⟩,⟨aFd,aFe⟩⟩⟩⟩⟩,⟨⟨⟨⟨aFf,⟨aFg,aFh⟩⟩,⟨aFi,⟨aFj,aFk⟩⟩⟩,⟨⟨aFl,⟨aFm,aFn⟩⟩,⟨aFo,⟨aFp,aFq⟩⟩⟩⟩,⟨⟨⟨aFr,⟨aFs,aFt⟩⟩,⟨aFv,⟨aFw,aFx⟩⟩⟩,⟨⟨aFy,⟨aFz,aFA⟩⟩,⟨⟨aFB,aFC⟩,⟨aFD,aFL⟩⟩⟩⟩⟩⟩⟩⟩
noncomputable def tab:oS:=aPH.get
theorem aJZ:tab 4=some (.code x4):=rfl
theorem aNl:tab 10=some (.code x10):=rfl
theorem aNm:tab 11=some (.code x11):=rfl
theorem aNn:tab 12=some (.code x12):=rfl
theorem aNo:tab 13=some (.code x13):=rfl
theorem aNp:tab 14=some (.code x14):=rfl
theorem aNq:tab 15=some (.code x15):=rfl
theorem aNr:tab 19=some (.code x19):=rfl
theorem aNs:tab 20=some (.code x20):=rfl
theorem aNt:tab 21=some (.code x21):=rfl
theorem aNu:tab 22=some (.code x22):=rfl
theorem aNv:tab 23=some (.code x23):=rfl
theorem aNw:tab 24=some (.code x24):=rfl
theorem aNx:tab 25=some (.code x25):=rfl
theorem aNy:tab 26=some (.code x26):=rfl
theorem aNz:tab 27=some (.code x27):=rfl
theorem aNA:tab 28=some (.code x28):=rfl
theorem aNB:tab 29=some (.code x29):=rfl
theorem aNC:tab 30=some (.code x30):=rfl
theorem aND:tab 34=some (.code x34):=rfl
theorem aNE:tab 35=some (.code x35):=rfl
theorem aNF:tab 36=some (.code x36):=rfl
theorem aNG:tab 50=some (.code x50):=rfl
theorem aNH:tab 51=some (.code x51):=rfl
theorem aNI:tab 52=some (.code x52):=rfl
theorem aNJ:tab 53=some (.code x53):=rfl
theorem aNK:tab 54=some (.code x54):=rfl
theorem aNL:tab 55=some (.code x55):=rfl
theorem aNM:tab 56=some (.code x56):=rfl
theorem aNN:tab 57=some (.code x57):=rfl
theorem aNO:tab 58=some (.code x58):=rfl
theorem aNP:tab 66=some (.code x66):=rfl
theorem aNQ:tab 67=some (.code x67):=rfl
theorem aNR:tab 68=some (.code x68):=rfl
theorem aNS:tab 69=some (.code x69):=rfl
theorem aNT:tab 70=some (.code x70):=rfl
theorem aNU:tab 71=some (.code x71):=rfl
theorem aNV:tab 72=some (.code x72):=rfl
theorem aNW:tab 73=some (.code x73):=rfl
theorem aNX:tab 74=some (.code x74):=rfl
theorem aNY:tab 75=some (.code x75):=rfl
theorem aNZ:tab 76=some (.code x76):=rfl
theorem aN0:tab 77=some (.code x77):=rfl
theorem aN1:tab 78=some (.code x78):=rfl
theorem aN2:tab 79=some (.code x79):=rfl
theorem aN3:tab 80=some (.code x80):=rfl
theorem aN4:tab 81=some (.code x81):=rfl
theorem aN5:tab 82=some (.code x82):=rfl
theorem aN6:tab 87=some (.code x87):=rfl
theorem aN7:tab 88=some (.code x88):=rfl
theorem aN8:tab 99=some (.code x99):=rfl
theorem aFM:tab 100=some (.code aLd):=rfl
theorem aFN:tab 101=some (.code aLe):=rfl
theorem aFO:tab 103=some (.prim false (fX 3)):=rfl
theorem aFP:tab 104=some (.code aLf):=rfl
theorem aFQ:tab 106=some (.code aLg):=rfl
theorem aFR:tab 107=some (.code aLh):=rfl
theorem aFS:tab 108=some (.code aLi):=rfl
theorem aFT:tab 109=some (.code aLj):=rfl
theorem aFU:tab 110=some (.code aLk):=rfl
theorem aFV:tab 111=some (.code aLl):=rfl
theorem aFW:tab 115=some (.code aLm):=rfl
theorem aFX:tab 116=some (.code aLn):=rfl
theorem aFY:tab 117=some (.code aLo):=rfl
theorem aFZ:tab 118=some (.code aLp):=rfl
theorem aF0:tab 119=some (.code aLq):=rfl
theorem aF1:tab 120=some (.code aLr):=rfl
theorem aF2:tab 121=some (.code aLs):=rfl
theorem aF3:tab 122=some (.code aLt):=rfl
theorem aF4:tab 123=some (.code aLu):=rfl
theorem aF5:tab 124=some (.code aLv):=rfl
theorem X4:tab 125=some (.code aLw):=rfl
theorem aF6:tab 126=some (.code aLx):=rfl
theorem X5:tab 127=some (.code aBJ):=rfl
theorem aF7:tab 128=some (.code aLy):=rfl
theorem aF8:tab 129=some (.code aLz):=rfl
theorem aF9:tab 130=some (.code aLA):=rfl
theorem aGa:tab 131=some (.code aLB):=rfl
theorem aGb:tab 132=some (.code aLC):=rfl
theorem aGc:tab 133=some (.code aLD):=rfl
theorem aGd:tab 134=some (.code aLE):=rfl
theorem aGe:tab 135=some (.code aLF):=rfl
theorem aGf:tab 136=some (.code aLG):=rfl
theorem aGg:tab 139=some (.code aLH):=rfl
theorem aGh:tab 146=some (.code aLI):=rfl
theorem aGi:tab 154=some (.code aLJ):=rfl
theorem X6:tab 155=some (.code aLK):=rfl
theorem aGj:tab 156=some (.code aLL):=rfl
theorem aGk:tab 157=some (.code aLM):=rfl
theorem aGl:tab 160=some (.code aLN):=rfl
theorem aGm:tab 161=some (.code aLO):=rfl
theorem X7:tab 162=some (.code aLP):=rfl
theorem aGn:tab 163=some (.code aLQ):=rfl
theorem aGo:tab 164=some (.code aLR):=rfl
theorem aGp:tab 165=some (.code aLS):=rfl
theorem X8:tab 166=some (.code aLT):=rfl
theorem aGq:tab 167=some (.code aLU):=rfl
theorem aGr:tab 168=some (.code aLV):=rfl
theorem aGs:tab 169=some (.code aLW):=rfl
theorem aGt:tab 170=some (.code aLX):=rfl
theorem QG:tab 171=some (.code aLY):=rfl
theorem aGu:tab 173=some (.code aLZ):=rfl
theorem aGv:tab 174=some (.code aL0):=rfl
theorem aGw:tab 175=some (.code aL1):=rfl
theorem aGx:tab 176=some (.code aL2):=rfl
theorem aGy:tab 177=some (.code aL3):=rfl
theorem aGz:tab 178=some (.code aL4):=rfl
theorem aGA:tab 179=some (.code aL5):=rfl
theorem aGB:tab 180=some (.code aL6):=rfl
theorem aGC:tab 181=some (.code aL7):=rfl
theorem aGD:tab 182=some (.prim false (fX 3)):=rfl
theorem aGE:tab 183=some (.prim false (fX 3)):=rfl
theorem aGF:tab 184=some (.prim false (fX 5)):=rfl
theorem aGG:tab 185=some (.prim false (fX 1)):=rfl
theorem aGH:tab 186=some (.prim false (fX 1)):=rfl
theorem aGI:tab 187=some (.code aL8):=rfl
theorem aGJ:tab 188=some (.code aL9):=rfl
theorem aGK:tab 189=some (.code aMa):=rfl
theorem aGL:tab 190=some (.code aMb):=rfl
theorem aGM:tab 191=some (.code aMc):=rfl
theorem aGN:tab 192=some (.code aMd):=rfl
theorem aGO:tab 193=some (.code aMe):=rfl
theorem aGP:tab 194=some (.code aMf):=rfl
theorem aGQ:tab 195=some (.code aMg):=rfl
theorem aGR:tab 197=some (.code aMh):=rfl
theorem aGS:tab 201=some (.code aMi):=rfl
theorem aGT:tab 207=some (.code aMj):=rfl
theorem aGU:tab 209=some (.code aMk):=rfl
theorem aGV:tab 210=some (.code aMl):=rfl
theorem aGW:tab 211=some (.code aMm):=rfl
theorem aGX:tab 212=some (.code aMn):=rfl
theorem aGY:tab 213=some (.code aMo):=rfl
theorem aGZ:tab 214=some (.code aMp):=rfl
theorem aG0:tab 215=some (.code aMq):=rfl
theorem aG1:tab 216=some (.code aMr):=rfl
theorem aG2:tab 217=some (.code aMs):=rfl
theorem aG3:tab 218=some (.code aMt):=rfl
theorem aG4:tab 219=some (.code aMu):=rfl
theorem aG5:tab 220=some (.code aMv):=rfl
theorem aG6:tab 221=some (.code aMw):=rfl
theorem QH:tab 222=some (.code aMx):=rfl
theorem aG7:tab 223=some (.code aMy):=rfl
theorem aG8:tab 224=some (.code aMz):=rfl
theorem aG9:tab 225=some (.code aMA):=rfl
theorem aHa:tab 226=some (.code aMB):=rfl
theorem aHb:tab 227=some (.code aMC):=rfl
theorem aHc:tab 228=some (.code aMD):=rfl
theorem aHd:tab 229=some (.code aME):=rfl
theorem aHe:tab 230=some (.code aMF):=rfl
theorem aHf:tab 231=some (.code aMG):=rfl
theorem aRK:tab 232=some (.code aMH):=rfl
theorem aRL:tab 233=some (.code aMI):=rfl
theorem aRM:tab 234=some (.code aMJ):=rfl
theorem aRN:tab 235=some (.code aMK):=rfl
theorem aRO:tab 236=some (.code aML):=rfl
theorem aRP:tab 237=some (.code aMM):=rfl
theorem aRQ:tab 238=some (.code aMN):=rfl
theorem aHg:tab 239=some (.code aMO):=rfl
theorem aHh:tab 240=some (.code aMP):=rfl
theorem aHi:tab 241=some (.code aMQ):=rfl
theorem aHj:tab 242=some (.prim false FC):=rfl
theorem aHk:tab 243=some (.code aMR):=rfl
theorem aHl:tab 262=some (.code aMS):=rfl
theorem aHm:tab 263=some (.code aMT):=rfl
theorem aHn:tab 264=some (.code aMU):=rfl
theorem aHo:tab 265=some (.code aMV):=rfl
theorem aHp:tab 266=some (.code aMW):=rfl
theorem aHq:tab 267=some (.code aE8):=rfl
theorem aHr:tab 268=some (.code aFa):=rfl
theorem aHs:tab 269=some (.code aMX):=rfl
theorem aHt:tab 270=some (.code aMY):=rfl
theorem aHu:tab 271=some (.code aMZ):=rfl
theorem aHv:tab 272=some (.code aM0):=rfl
theorem aHw:tab 273=some (.code aM1):=rfl
theorem aHx:tab 274=some (.code aM2):=rfl
theorem QI:tab 275=some (.code aAc):=rfl
theorem X9:tab 276=some (.code aM3):=rfl
theorem aRR:tab 277=some (.code aM4):=rfl
theorem aRS:tab 278=some (.code aM5):=rfl
theorem aRT:tab 279=some (.code aM6):=rfl
theorem aRU:tab 280=some (.code aM7):=rfl
theorem aRV:tab 281=some (.code aM8):=rfl
theorem aHy:tab 282=some (.code aM9):=rfl
theorem aHz:tab 292=some (.code aNa):=rfl
theorem aHA:tab 293=some (.code aNb):=rfl
theorem aHB:tab 294=some (.code aNc):=rfl
theorem aHC:tab 295=some (.code aNd):=rfl
theorem aHD:tab 296=some (.code aFu):=rfl
theorem aHE:tab 297=some (.code aNe):=rfl
theorem YA:tab 298=some (.code aBK):=rfl
theorem aHF:tab 299=some (.code aNf):=rfl
theorem YB:tab 300=some (.code aNg):=rfl
theorem aRW:tab 301=some (.code aNh):=rfl
theorem aHG:tab 302=some (.code aNi):=rfl
theorem aHH:tab 304=some (.code aNj):=rfl
theorem aHI:tab 305=some (.code aNk):=rfl
theorem aHJ:tab 306=some (.prim false (fX 1)):=rfl
end Go.Proofs.YthljmpcakagceaaGreat
