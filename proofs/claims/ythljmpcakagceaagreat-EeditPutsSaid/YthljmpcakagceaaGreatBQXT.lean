/- The table of the seat's functions. Printed by a program. -/
import Derived.Test.YthljmpcakagceaaGreatBQX1
import Derived.Test.YthljmpcakagceaaGreatBQIN
import Derived.Test.YthljmpcakagceaaGreatChecked
set_option maxRecDepth 100000
namespace Go.Proofs.YthljmpcakagceaaGreat
open Go.Vm
theorem nL:Go.Proofs.Tryz.prog.follows .mixedOrders=true:=Go.Proofs.Tryz.checked.mixed
theorem aFG:BQ Go.Proofs.Tryz.prog 102 (.shp (O6 3)):=aND
theorem aFH:BQ Go.Proofs.Tryz.prog 103 (.prim false (fU 3)):=⟨rfl,pJ nL (zero:=[.int .i64 0,.int .i64 0,.int .i64 0]) (by decide+kernel)⟩
theorem aFI:BQ Go.Proofs.Tryz.prog 182 (.prim false (fU 3)):=⟨rfl,pJ nL (zero:=[.int .i64 0,.int .i64 0,.int .i64 0]) (by decide+kernel)⟩
theorem aFJ:BQ Go.Proofs.Tryz.prog 183 (.prim false (fU 3)):=⟨rfl,pJ nL (zero:=[.int .i64 0,.int .i64 0,.int .i64 0]) (by decide+kernel)⟩
theorem aFK:BQ Go.Proofs.Tryz.prog 184 (.prim false (fU 5)):=⟨rfl,pJ nL (zero:=[.int .i64 0,.int .i64 0,.int .i64 0,.int .i64 0,.int .i64 0]) (by decide+kernel)⟩
theorem aFL:BQ Go.Proofs.Tryz.prog 185 (.prim false (fU 1)):=⟨rfl,pJ nL (zero:=[.int .i64 0]) (by decide+kernel)⟩
theorem aFM:BQ Go.Proofs.Tryz.prog 186 (.prim false (fU 1)):=⟨rfl,pJ nL (zero:=[.bool false]) (by decide+kernel)⟩
theorem aFN:BQ Go.Proofs.Tryz.prog 242 (.prim false EY):=⟨rfl,U0 Go.Proofs.Tryz.func242 (by kernel_rfl) (by kernel_rfl) (by kernel_rfl) (by kernel_rfl)⟩
theorem aFO:BQ Go.Proofs.Tryz.prog 306 (.prim false (fU 1)):=⟨rfl,pJ nL (zero:=[.int .i64 0]) (by decide+kernel)⟩
noncomputable def aP2:TT:= .node 168 (.node 99 (.node 58 (.node 37 (.node 27 (.node 13 (.node 11 (.leaf 6 (.code x6)) (.node 12 (.leaf 11 (.code x11)) (.leaf 12 (.code x12)))) (.node 21 (.leaf 13 (.code x13)) (.node 23 (.leaf 21 (.code x21)) (.leaf 23 (.code x23))))) (.node 33 (.node 29 (.leaf 27 (.code x27)) (.node 30 (.leaf 29 (.code x29)) (.leaf 30 (.code x30)))) (.node 35 (.leaf 33 (.code x33)) (.node 36 (.leaf 35 (.code x35)) (.leaf 36 (.code x36)))))) (.node 46 (.node 40 (.node 38 (.leaf 37 (.code x37)) (.node 39 (.leaf 38 (.code x38)) (.leaf 39 (.code x39)))) (.node 41 (.leaf 40 (.code x40)) (.node 45 (.leaf 41 (.code x41)) (.leaf 45 (.code x45))))) (.node 53 (.node 48 (.leaf 46 (.code x46)) (.node 52 (.leaf 48 (.code x48)) (.leaf 52 (.code x52)))) (.node 54 (.leaf 53 (.code x53)) (.node 57 (.leaf 54 (.code x54)) (.leaf 57 (.code x57))))))) (.node 81 (.node 72 (.node 69 (.node 66 (.leaf 58 (.code x58)) (.node 67 (.leaf 66 (.code x66)) (.leaf 67 (.code x67)))) (.node 70 (.leaf 69 (.code x69)) (.node 71 (.leaf 70 (.code x70)) (.leaf 71 (.code x71))))) (.node 78 (.node 73 (.leaf 72 (.code x72)) (.node 77 (.leaf 73 (.code x73)) (.leaf 77 (.code x77)))) (.node 79 (.leaf 78 (.code x78)) (.node 80 (.leaf 79 (.code x79)) (.leaf 80 (.code x80)))))) (.node 90 (.node 87 (.node 82 (.leaf 81 (.code x81)) (.node 86 (.leaf 82 (.code x82)) (.leaf 86 (.code x86)))) (.node 88 (.leaf 87 (.code x87)) (.node 89 (.leaf 88 (.code x88)) (.leaf 89 (.code x89))))) (.node 93 (.node 91 (.leaf 90 (.code x90)) (.node 92 (.leaf 91 (.code x91)) (.leaf 92 (.code x92)))) (.node 95 (.node 94 (.leaf 93 (.code x93)) (.leaf 94 (.code x94))) (.node 96 (.leaf 95 (.code x95)) (.leaf 96 (.code x96)))))))) (.node 131 (.node 116 (.node 106 (.node 102 (.node 100 (.leaf 99 (.code x99)) (.node 101 (.leaf 100 (.code aLv)) (.leaf 101 (.code aLw)))) (.node 103 (.leaf 102 (.shp (O6 3))) (.node 104 (.leaf 103 (.prim false (fU 3))) (.leaf 104 (.code aLx))))) (.node 110 (.node 108 (.leaf 106 (.code aLy)) (.node 109 (.leaf 108 (.code aLz)) (.leaf 109 (.code aLA)))) (.node 111 (.leaf 110 (.code aLB)) (.node 115 (.leaf 111 (.code aLC)) (.leaf 115 (.code aLD)))))) (.node 122 (.node 119 (.node 117 (.leaf 116 (.code aLE)) (.node 118 (.leaf 117 (.code aLF)) (.leaf 118 (.code aLG)))) (.node 120 (.leaf 119 (.code aLH)) (.node 121 (.leaf 120 (.code aLI)) (.leaf 121 (.code aLJ))))) (.node 128 (.node 124 (.leaf 122 (.code aLK)) (.node 125 (.leaf 124 (.code aLL)) (.leaf 125 (.code aLM)))) (.node 129 (.leaf 128 (.code aLN)) (.node 130 (.leaf 129 (.code aLO)) (.leaf 130 (.code aLP))))))) (.node 149 (.node 139 (.node 134 (.node 132 (.leaf 131 (.code aLQ)) (.node 133 (.leaf 132 (.code aLR)) (.leaf 133 (.code aLS)))) (.node 135 (.leaf 134 (.code aLT)) (.node 136 (.leaf 135 (.code aLU)) (.leaf 136 (.code aLV))))) (.node 146 (.node 144 (.leaf 139 (.code aLW)) (.node 145 (.leaf 144 (.code aLX)) (.leaf 145 (.code aLY)))) (.node 147 (.leaf 146 (.code aLZ)) (.node 148 (.leaf 147 (.code aL0)) (.leaf 148 (.code aL1)))))) (.node 157 (.node 154 (.node 150 (.leaf 149 (.code aL2)) (.node 151 (.leaf 150 (.code aL3)) (.leaf 151 (.code aL4)))) (.node 155 (.leaf 154 (.code aL5)) (.node 156 (.leaf 155 (.code aL6)) (.leaf 156 (.code aL7))))) (.node 164 (.node 160 (.leaf 157 (.code aL8)) (.node 163 (.leaf 160 (.code aL9)) (.leaf 163 (.code aMa)))) (.node 166 (.node 165 (.leaf 164 (.code aMb)) (.leaf 165 (.code aMc))) (.node 167 (.leaf 166 (.code aMd)) (.leaf 167 (.code aMe))))))))) (.node 226 (.node 197 (.node 182 (.node 175 (.node 171 (.node 169 (.leaf 168 (.code aMf)) (.node 170 (.leaf 169 (.code aMg)) (.leaf 170 (.code aMh)))) (.node 173 (.leaf 171 (.code aMi)) (.node 174 (.leaf 173 (.code aMj)) (.leaf 174 (.code aMk))))) (.node 179 (.node 176 (.leaf 175 (.code aMl)) (.node 178 (.leaf 176 (.code aMm)) (.leaf 178 (.code aMn)))) (.node 180 (.leaf 179 (.code aMo)) (.node 181 (.leaf 180 (.code aMp)) (.leaf 181 (.code aMq)))))) (.node 190 (.node 185 (.node 183 (.leaf 182 (.prim false (fU 3))) (.node 184 (.leaf 183 (.prim false (fU 3))) (.leaf 184 (.prim false (fU 5))))) (.node 186 (.leaf 185 (.prim false (fU 1))) (.node 189 (.leaf 186 (.prim false (fU 1))) (.leaf 189 (.code aMr))))) (.node 193 (.node 191 (.leaf 190 (.code aMs)) (.node 192 (.leaf 191 (.code aMt)) (.leaf 192 (.code aMu)))) (.node 194 (.leaf 193 (.code aMv)) (.node 195 (.leaf 194 (.code aMw)) (.leaf 195 (.code aMx))))))) (.node 213 (.node 204 (.node 201 (.node 199 (.leaf 197 (.code aMy)) (.node 200 (.leaf 199 (.code aMz)) (.leaf 200 (.code aMA)))) (.node 202 (.leaf 201 (.code aMB)) (.node 203 (.leaf 202 (.code aMC)) (.leaf 203 (.code aMD))))) (.node 209 (.node 205 (.leaf 204 (.code aME)) (.node 207 (.leaf 205 (.code aMF)) (.leaf 207 (.code aMG)))) (.node 211 (.leaf 209 (.code aMH)) (.node 212 (.leaf 211 (.code aMI)) (.leaf 212 (.code aMJ)))))) (.node 219 (.node 216 (.node 214 (.leaf 213 (.code aMK)) (.node 215 (.leaf 214 (.code aML)) (.leaf 215 (.code aMM)))) (.node 217 (.leaf 216 (.code aMN)) (.node 218 (.leaf 217 (.code aMO)) (.leaf 218 (.code aMP))))) (.node 222 (.node 220 (.leaf 219 (.code aMQ)) (.node 221 (.leaf 220 (.code aMR)) (.leaf 221 (.code aMS)))) (.node 224 (.node 223 (.leaf 222 (.code aMT)) (.leaf 223 (.code aMU))) (.node 225 (.leaf 224 (.code aMV)) (.leaf 225 (.code aMW)))))))) (.node 271 (.node 256 (.node 242 (.node 229 (.node 227 (.leaf 226 (.code aMX)) (.node 228 (.leaf 227 (.code aMY)) (.leaf 228 (.code aMZ)))) (.node 230 (.leaf 229 (.code aM0)) (.node 241 (.leaf 230 (.code aM1)) (.leaf 241 (.code aM2))))) (.node 253 (.node 243 (.leaf 242 (.prim false EY)) (.node 252 (.leaf 243 (.code aM3)) (.leaf 252 (.code aM4)))) (.node 254 (.leaf 253 (.code aM5)) (.node 255 (.leaf 254 (.code aM6)) (.leaf 255 (.code aM7)))))) (.node 265 (.node 259 (.node 257 (.leaf 256 (.code aM8)) (.node 258 (.leaf 257 (.code aM9)) (.leaf 258 (.code aNa)))) (.node 263 (.leaf 259 (.code aNb)) (.node 264 (.leaf 263 (.code aNc)) (.leaf 264 (.code aNd))))) (.node 268 (.node 266 (.leaf 265 (.code aNe)) (.node 267 (.leaf 266 (.code aNf)) (.leaf 267 (.code aFa)))) (.node 269 (.leaf 268 (.code aFc)) (.node 270 (.leaf 269 (.code aNg)) (.leaf 270 (.code aNh))))))) (.node 292 (.node 282 (.node 274 (.node 272 (.leaf 271 (.code aNi)) (.node 273 (.leaf 272 (.code aNj)) (.leaf 273 (.code aNk)))) (.node 275 (.leaf 274 (.code aNl)) (.node 276 (.leaf 275 (.code aAj)) (.leaf 276 (.code aNm))))) (.node 288 (.node 286 (.leaf 282 (.code aNn)) (.node 287 (.leaf 286 (.code aNo)) (.leaf 287 (.code aNp)))) (.node 289 (.leaf 288 (.code aNq)) (.node 290 (.leaf 289 (.code aNr)) (.leaf 290 (.code aNs)))))) (.node 298 (.node 295 (.node 293 (.leaf 292 (.code aNt)) (.node 294 (.leaf 293 (.code aNu)) (.leaf 294 (.code aNv)))) (.node 296 (.leaf 295 (.code aNw)) (.node 297 (.leaf 296 (.code aFw)) (.leaf 297 (.code aNx))))) (.node 302 (.node 299 (.leaf 298 (.code aBN)) (.node 300 (.leaf 299 (.code aNy)) (.leaf 300 (.code aNz)))) (.node 305 (.node 304 (.leaf 302 (.code aNA)) (.leaf 304 (.code aNB))) (.node 306 (.leaf 305 (.code aNC)) (.leaf 306 (.prim false (fU 1))))))))))
theorem XY:aP2.All (BQ Go.Proofs.Tryz.prog):=⟨⟨⟨⟨⟨⟨⟨aP1,⟨aKI,aKJ⟩⟩,⟨aKK,⟨aKL,aKM⟩⟩⟩,⟨⟨aKN,⟨aKO,aKP⟩⟩,⟨aKQ,⟨aKR,aKS⟩⟩⟩⟩,⟨⟨⟨aKT,⟨aKU,aKV⟩⟩,⟨aKW,⟨aKX,aKY⟩⟩⟩,⟨⟨aKZ,⟨aK0,aK1⟩⟩,⟨aK2,⟨aK3,aK4⟩⟩⟩⟩⟩,⟨⟨⟨⟨aK5,⟨aK6,aK7⟩⟩,⟨aK8,⟨aK9,aLa⟩⟩⟩,⟨⟨aLb,⟨aLc,aLd⟩⟩,⟨aLe,⟨aLf,aLg⟩⟩⟩⟩,⟨⟨⟨aLh,⟨aLi,aLj⟩⟩,⟨aLk,⟨aLl,aLm⟩⟩⟩,⟨⟨aLn,⟨aLo,aLp⟩⟩,⟨⟨aLq,aLr⟩,⟨aLs,aLt⟩⟩⟩⟩⟩⟩,⟨⟨⟨⟨⟨aLu,⟨aDp,aDq⟩⟩,⟨aFG,⟨aFH,aDr⟩⟩⟩,⟨⟨aDs,⟨aDt,aDu⟩⟩,⟨aDv,⟨aDw,aDx⟩⟩⟩⟩,⟨⟨⟨aDy,⟨aDz,aDA⟩⟩,⟨aDB,⟨aDC,aDD⟩⟩⟩,⟨⟨aDE,⟨aDF,aDG⟩⟩,⟨aDH,⟨aDI,aDJ⟩⟩⟩⟩⟩,⟨⟨⟨⟨aDK,⟨aDL,aDM⟩⟩,⟨aDN,⟨aDO,aDP⟩⟩⟩,⟨⟨aDQ,⟨aDR,aDS⟩⟩,⟨aDT,⟨aDU,aDV⟩⟩⟩⟩,⟨⟨⟨aDW,⟨aDX,aDY⟩⟩,⟨aDZ,⟨aD0,aD1⟩⟩⟩,⟨⟨aD2,⟨aD3,aD4⟩⟩,⟨⟨aD5,aD6⟩,⟨aD7,aD8⟩⟩⟩⟩⟩⟩⟩,⟨⟨⟨⟨⟨⟨aD9,⟨aEa,aEb⟩⟩,⟨aEc,⟨aEd,aEe⟩⟩⟩,⟨⟨aEf,⟨aEg,aEh⟩⟩,⟨aEi,⟨aEj,aEk⟩⟩⟩⟩,⟨⟨⟨aFI,⟨aFJ,aFK⟩⟩,⟨aFL,⟨aFM,aEl⟩⟩⟩,⟨⟨aEm,⟨aEn,aEo⟩⟩,⟨aEp,⟨aEq,aEr⟩⟩⟩⟩⟩,⟨⟨⟨⟨aEs,⟨aEt,aEu⟩⟩,⟨aEv,⟨aEw,aEx⟩⟩⟩,⟨⟨aEy,⟨aEz,aEA⟩⟩,⟨aEB,⟨aEC,aED⟩⟩⟩⟩,⟨⟨⟨aEE,⟨aEF,aEG⟩⟩,⟨aEH,⟨aEI,aEJ⟩⟩⟩,⟨⟨aEK,⟨aEL,aEM⟩⟩,⟨⟨aEN,aEO⟩,⟨aEP,aEQ⟩⟩⟩⟩⟩⟩,⟨⟨⟨⟨⟨aER,⟨aES,aET⟩⟩,⟨aEU,⟨aEV,aEW⟩⟩⟩,⟨⟨aFN,⟨aEX,aEY⟩⟩,⟨aEZ,⟨aE0,aE1⟩⟩⟩⟩,⟨⟨⟨aE2,⟨aE3,aE4⟩⟩,⟨aE5,⟨aE6,aE7⟩⟩⟩,⟨⟨aE8,⟨aE9,aFb⟩⟩,⟨aFd,⟨aFe,aFf⟩⟩⟩⟩⟩,⟨⟨⟨⟨aFg,⟨aFh,aFi⟩⟩,⟨aFj,⟨aFk,aFl⟩⟩⟩,⟨⟨aFm,⟨aFn,aFo⟩⟩,⟨aFp,⟨aFq,aFr⟩⟩⟩⟩,⟨⟨⟨aFs,⟨aFt,aFu⟩⟩,⟨aFv,⟨aFx,aFy⟩⟩⟩,⟨⟨aFz,⟨aFA,aFB⟩⟩,⟨⟨aFC,aFD⟩,⟨aFE,aFO⟩⟩⟩⟩⟩⟩⟩⟩
noncomputable def tab:pI:=aP2.get
theorem aKh:tab 6=some (.code x6):=rfl
theorem aNE:tab 11=some (.code x11):=rfl
theorem aNF:tab 12=some (.code x12):=rfl
theorem aNG:tab 13=some (.code x13):=rfl
theorem aNH:tab 21=some (.code x21):=rfl
theorem aNI:tab 23=some (.code x23):=rfl
theorem aNJ:tab 27=some (.code x27):=rfl
theorem aNK:tab 29=some (.code x29):=rfl
theorem aNL:tab 30=some (.code x30):=rfl
theorem aNM:tab 33=some (.code x33):=rfl
theorem aNN:tab 35=some (.code x35):=rfl
theorem aNO:tab 36=some (.code x36):=rfl
theorem aBQ:tab 37=some (.code x37):=rfl
theorem aNP:tab 38=some (.code x38):=rfl
theorem aNQ:tab 39=some (.code x39):=rfl
theorem aNR:tab 40=some (.code x40):=rfl
theorem aNS:tab 41=some (.code x41):=rfl
theorem aNT:tab 45=some (.code x45):=rfl
theorem aNU:tab 46=some (.code x46):=rfl
theorem aNV:tab 48=some (.code x48):=rfl
theorem aNW:tab 52=some (.code x52):=rfl
theorem aNX:tab 53=some (.code x53):=rfl
theorem aNY:tab 54=some (.code x54):=rfl
theorem aNZ:tab 57=some (.code x57):=rfl
theorem aN0:tab 58=some (.code x58):=rfl
theorem aN1:tab 66=some (.code x66):=rfl
theorem aN2:tab 67=some (.code x67):=rfl
theorem aN3:tab 69=some (.code x69):=rfl
theorem aN4:tab 70=some (.code x70):=rfl
theorem aN5:tab 71=some (.code x71):=rfl
theorem aN6:tab 72=some (.code x72):=rfl
theorem aN7:tab 73=some (.code x73):=rfl
theorem aN8:tab 77=some (.code x77):=rfl
theorem aN9:tab 78=some (.code x78):=rfl
theorem aOa:tab 79=some (.code x79):=rfl
theorem aOb:tab 80=some (.code x80):=rfl
theorem aOc:tab 81=some (.code x81):=rfl
theorem aOd:tab 82=some (.code x82):=rfl
theorem aOe:tab 86=some (.code x86):=rfl
theorem aOf:tab 87=some (.code x87):=rfl
theorem aOg:tab 88=some (.code x88):=rfl
theorem aBR:tab 89=some (.code x89):=rfl
theorem aBS:tab 90=some (.code x90):=rfl
theorem aBT:tab 91=some (.code x91):=rfl
theorem aOh:tab 92=some (.code x92):=rfl
theorem aOi:tab 93=some (.code x93):=rfl
theorem aOj:tab 94=some (.code x94):=rfl
theorem aOk:tab 95=some (.code x95):=rfl
theorem aOl:tab 96=some (.code x96):=rfl
theorem aOm:tab 99=some (.code x99):=rfl
theorem aFP:tab 100=some (.code aLv):=rfl
theorem aFQ:tab 101=some (.code aLw):=rfl
theorem aFR:tab 102=some (.shp (O6 3)):=rfl
theorem aFS:tab 103=some (.prim false (fU 3)):=rfl
theorem aFT:tab 104=some (.code aLx):=rfl
theorem aFU:tab 106=some (.code aLy):=rfl
theorem aFV:tab 108=some (.code aLz):=rfl
theorem aFW:tab 109=some (.code aLA):=rfl
theorem aFX:tab 110=some (.code aLB):=rfl
theorem aFY:tab 111=some (.code aLC):=rfl
theorem aFZ:tab 115=some (.code aLD):=rfl
theorem aF0:tab 116=some (.code aLE):=rfl
theorem aF1:tab 117=some (.code aLF):=rfl
theorem aF2:tab 118=some (.code aLG):=rfl
theorem aF3:tab 119=some (.code aLH):=rfl
theorem aF4:tab 120=some (.code aLI):=rfl
theorem aF5:tab 121=some (.code aLJ):=rfl
theorem aF6:tab 122=some (.code aLK):=rfl
theorem aF7:tab 124=some (.code aLL):=rfl
theorem XZ:tab 125=some (.code aLM):=rfl
theorem aF8:tab 128=some (.code aLN):=rfl
theorem aF9:tab 129=some (.code aLO):=rfl
theorem aGa:tab 130=some (.code aLP):=rfl
theorem aGb:tab 131=some (.code aLQ):=rfl
theorem aGc:tab 132=some (.code aLR):=rfl
theorem aGd:tab 133=some (.code aLS):=rfl
theorem aGe:tab 134=some (.code aLT):=rfl
theorem aGf:tab 135=some (.code aLU):=rfl
theorem aGg:tab 136=some (.code aLV):=rfl
theorem aGh:tab 139=some (.code aLW):=rfl
theorem aGi:tab 144=some (.code aLX):=rfl
theorem aGj:tab 145=some (.code aLY):=rfl
theorem aGk:tab 146=some (.code aLZ):=rfl
theorem X0:tab 147=some (.code aL0):=rfl
theorem X1:tab 148=some (.code aL1):=rfl
theorem X2:tab 149=some (.code aL2):=rfl
theorem aGl:tab 150=some (.code aL3):=rfl
theorem aGm:tab 151=some (.code aL4):=rfl
theorem aGn:tab 154=some (.code aL5):=rfl
theorem X3:tab 155=some (.code aL6):=rfl
theorem aGo:tab 156=some (.code aL7):=rfl
theorem aGp:tab 157=some (.code aL8):=rfl
theorem aGq:tab 160=some (.code aL9):=rfl
theorem aGr:tab 163=some (.code aMa):=rfl
theorem aGs:tab 164=some (.code aMb):=rfl
theorem aGt:tab 165=some (.code aMc):=rfl
theorem X4:tab 166=some (.code aMd):=rfl
theorem aGu:tab 167=some (.code aMe):=rfl
theorem aGv:tab 168=some (.code aMf):=rfl
theorem aGw:tab 169=some (.code aMg):=rfl
theorem aGx:tab 170=some (.code aMh):=rfl
theorem P2:tab 171=some (.code aMi):=rfl
theorem aGy:tab 173=some (.code aMj):=rfl
theorem aGz:tab 174=some (.code aMk):=rfl
theorem aGA:tab 175=some (.code aMl):=rfl
theorem aGB:tab 176=some (.code aMm):=rfl
theorem aGC:tab 178=some (.code aMn):=rfl
theorem aGD:tab 179=some (.code aMo):=rfl
theorem aGE:tab 180=some (.code aMp):=rfl
theorem aGF:tab 181=some (.code aMq):=rfl
theorem aGG:tab 182=some (.prim false (fU 3)):=rfl
theorem aGH:tab 183=some (.prim false (fU 3)):=rfl
theorem aGI:tab 184=some (.prim false (fU 5)):=rfl
theorem aGJ:tab 185=some (.prim false (fU 1)):=rfl
theorem aGK:tab 186=some (.prim false (fU 1)):=rfl
theorem aGL:tab 189=some (.code aMr):=rfl
theorem aGM:tab 190=some (.code aMs):=rfl
theorem aGN:tab 191=some (.code aMt):=rfl
theorem aGO:tab 192=some (.code aMu):=rfl
theorem aGP:tab 193=some (.code aMv):=rfl
theorem aGQ:tab 194=some (.code aMw):=rfl
theorem aGR:tab 195=some (.code aMx):=rfl
theorem aGS:tab 197=some (.code aMy):=rfl
theorem aGT:tab 199=some (.code aMz):=rfl
theorem aGU:tab 200=some (.code aMA):=rfl
theorem aGV:tab 201=some (.code aMB):=rfl
theorem X5:tab 202=some (.code aMC):=rfl
theorem aGW:tab 203=some (.code aMD):=rfl
theorem aGX:tab 204=some (.code aME):=rfl
theorem aGY:tab 205=some (.code aMF):=rfl
theorem aGZ:tab 207=some (.code aMG):=rfl
theorem aG0:tab 209=some (.code aMH):=rfl
theorem aG1:tab 211=some (.code aMI):=rfl
theorem aG2:tab 212=some (.code aMJ):=rfl
theorem aG3:tab 213=some (.code aMK):=rfl
theorem aG4:tab 214=some (.code aML):=rfl
theorem aG5:tab 215=some (.code aMM):=rfl
theorem aG6:tab 216=some (.code aMN):=rfl
theorem aG7:tab 217=some (.code aMO):=rfl
theorem aG8:tab 218=some (.code aMP):=rfl
theorem aG9:tab 219=some (.code aMQ):=rfl
theorem aHa:tab 220=some (.code aMR):=rfl
theorem aHb:tab 221=some (.code aMS):=rfl
theorem P3:tab 222=some (.code aMT):=rfl
theorem aHc:tab 223=some (.code aMU):=rfl
theorem aHd:tab 224=some (.code aMV):=rfl
theorem aHe:tab 225=some (.code aMW):=rfl
theorem aHf:tab 226=some (.code aMX):=rfl
theorem aHg:tab 227=some (.code aMY):=rfl
theorem aHh:tab 228=some (.code aMZ):=rfl
theorem aHi:tab 229=some (.code aM0):=rfl
theorem aHj:tab 230=some (.code aM1):=rfl
theorem aHk:tab 241=some (.code aM2):=rfl
theorem aHl:tab 242=some (.prim false EY):=rfl
theorem aHm:tab 243=some (.code aM3):=rfl
theorem aHn:tab 252=some (.code aM4):=rfl
theorem aHo:tab 253=some (.code aM5):=rfl
theorem aHp:tab 254=some (.code aM6):=rfl
theorem aHq:tab 255=some (.code aM7):=rfl
theorem aHr:tab 256=some (.code aM8):=rfl
theorem aHs:tab 257=some (.code aM9):=rfl
theorem aHt:tab 258=some (.code aNa):=rfl
theorem aHu:tab 259=some (.code aNb):=rfl
theorem aHv:tab 263=some (.code aNc):=rfl
theorem aHw:tab 264=some (.code aNd):=rfl
theorem aHx:tab 265=some (.code aNe):=rfl
theorem aHy:tab 266=some (.code aNf):=rfl
theorem aHz:tab 267=some (.code aFa):=rfl
theorem aHA:tab 268=some (.code aFc):=rfl
theorem aHB:tab 269=some (.code aNg):=rfl
theorem aHC:tab 270=some (.code aNh):=rfl
theorem aHD:tab 271=some (.code aNi):=rfl
theorem aHE:tab 272=some (.code aNj):=rfl
theorem aHF:tab 273=some (.code aNk):=rfl
theorem aHG:tab 274=some (.code aNl):=rfl
theorem P4:tab 275=some (.code aAj):=rfl
theorem X6:tab 276=some (.code aNm):=rfl
theorem aHH:tab 282=some (.code aNn):=rfl
theorem P5:tab 286=some (.code aNo):=rfl
theorem aHI:tab 287=some (.code aNp):=rfl
theorem X7:tab 288=some (.code aNq):=rfl
theorem P6:tab 289=some (.code aNr):=rfl
theorem aHJ:tab 290=some (.code aNs):=rfl
theorem aHK:tab 292=some (.code aNt):=rfl
theorem aHL:tab 293=some (.code aNu):=rfl
theorem aHM:tab 294=some (.code aNv):=rfl
theorem aHN:tab 295=some (.code aNw):=rfl
theorem aHO:tab 296=some (.code aFw):=rfl
theorem aHP:tab 297=some (.code aNx):=rfl
theorem X8:tab 298=some (.code aBN):=rfl
theorem aHQ:tab 299=some (.code aNy):=rfl
theorem X9:tab 300=some (.code aNz):=rfl
theorem aHR:tab 302=some (.code aNA):=rfl
theorem aHS:tab 304=some (.code aNB):=rfl
theorem aHT:tab 305=some (.code aNC):=rfl
theorem aHU:tab 306=some (.prim false (fU 1)):=rfl
end Go.Proofs.YthljmpcakagceaaGreat
