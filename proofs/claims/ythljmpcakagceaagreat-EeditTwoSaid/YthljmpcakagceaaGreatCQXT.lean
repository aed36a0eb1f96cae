/- The table of the seat's functions. Printed by a program. -/
import Derived.Test.YthljmpcakagceaaGreatCQX1
import Derived.Test.YthljmpcakagceaaGreatCQIN
import Derived.Test.YthljmpcakagceaaGreatChecked
set_option maxRecDepth 100000
namespace Go.Proofs.YthljmpcakagceaaGreat
open Go.Vm
theorem nH:Go.Proofs.Tryz.prog.follows .mixedOrders=true:=Go.Proofs.Tryz.checked.mixed
theorem aFB:BI Go.Proofs.Tryz.prog 102 (.shp (O2 3)):=aNz
theorem aFC:BI Go.Proofs.Tryz.prog 103 (.prim false (fS 3)):=⟨rfl,pE nH (zero:=[.int .i64 0,.int .i64 0,.int .i64 0]) (by decide+kernel)⟩
theorem aFD:BI Go.Proofs.Tryz.prog 182 (.prim false (fS 3)):=⟨rfl,pE nH (zero:=[.int .i64 0,.int .i64 0,.int .i64 0]) (by decide+kernel)⟩
theorem aFE:BI Go.Proofs.Tryz.prog 183 (.prim false (fS 3)):=⟨rfl,pE nH (zero:=[.int .i64 0,.int .i64 0,.int .i64 0]) (by decide+kernel)⟩
theorem aFF:BI Go.Proofs.Tryz.prog 184 (.prim false (fS 5)):=⟨rfl,pE nH (zero:=[.int .i64 0,.int .i64 0,.int .i64 0,.int .i64 0,.int .i64 0]) (by decide+kernel)⟩
theorem aFG:BI Go.Proofs.Tryz.prog 185 (.prim false (fS 1)):=⟨rfl,pE nH (zero:=[.int .i64 0]) (by decide+kernel)⟩
theorem aFH:BI Go.Proofs.Tryz.prog 186 (.prim false (fS 1)):=⟨rfl,pE nH (zero:=[.bool false]) (by decide+kernel)⟩
theorem aFI:BI Go.Proofs.Tryz.prog 242 (.prim false EU):=⟨rfl,U2 Go.Proofs.Tryz.func242 (by kernel_rfl) (by kernel_rfl) (by kernel_rfl) (by kernel_rfl)⟩
theorem aFJ:BI Go.Proofs.Tryz.prog 306 (.prim false (fS 1)):=⟨rfl,pE nH (zero:=[.int .i64 0]) (by decide+kernel)⟩
noncomputable def aPR:TT:= .node 169 (.node 102 (.node 67 (.node 42 (.node 27 (.node 13 (.node 11 (.leaf 7 (.code x7)) (.node 12 (.leaf 11 (.code x11)) (.leaf 12 (.code x12)))) (.node 21 (.leaf 13 (.code x13)) (.node 23 (.leaf 21 (.code x21)) (.leaf 23 (.code x23))))) (.node 35 (.node 29 (.leaf 27 (.code x27)) (.node 30 (.leaf 29 (.code x29)) (.leaf 30 (.code x30)))) (.node 36 (.leaf 35 (.code x35)) (.node 38 (.leaf 36 (.code x36)) (.leaf 38 (.code x38)))))) (.node 52 (.node 45 (.node 43 (.leaf 42 (.code x42)) (.node 44 (.leaf 43 (.code x43)) (.leaf 44 (.code x44)))) (.node 46 (.leaf 45 (.code x45)) (.node 47 (.leaf 46 (.code x46)) (.leaf 47 (.code x47))))) (.node 57 (.node 53 (.leaf 52 (.code x52)) (.node 54 (.leaf 53 (.code x53)) (.leaf 54 (.code x54)))) (.node 58 (.leaf 57 (.code x57)) (.node 66 (.leaf 58 (.code x58)) (.leaf 66 (.code x66))))))) (.node 82 (.node 73 (.node 70 (.node 68 (.leaf 67 (.code x67)) (.node 69 (.leaf 68 (.code x68)) (.leaf 69 (.code x69)))) (.node 71 (.leaf 70 (.code x70)) (.node 72 (.leaf 71 (.code x71)) (.leaf 72 (.code x72))))) (.node 79 (.node 77 (.leaf 73 (.code x73)) (.node 78 (.leaf 77 (.code x77)) (.leaf 78 (.code x78)))) (.node 80 (.leaf 79 (.code x79)) (.node 81 (.leaf 80 (.code x80)) (.leaf 81 (.code x81)))))) (.node 94 (.node 89 (.node 87 (.leaf 82 (.code x82)) (.node 88 (.leaf 87 (.code x87)) (.leaf 88 (.code x88)))) (.node 91 (.leaf 89 (.code x89)) (.node 92 (.leaf 91 (.code x91)) (.leaf 92 (.code x92))))) (.node 99 (.node 97 (.leaf 94 (.code x94)) (.node 98 (.leaf 97 (.code x97)) (.leaf 98 (.code x98)))) (.node 100 (.leaf 99 (.code x99)) (.node 101 (.leaf 100 (.code aLq)) (.leaf 101 (.code aLr)))))))) (.node 133 (.node 118 (.node 109 (.node 105 (.node 103 (.leaf 102 (.shp (O2 3))) (.node 104 (.leaf 103 (.prim false (fS 3))) (.leaf 104 (.code aLs)))) (.node 106 (.leaf 105 (.code aLt)) (.node 108 (.leaf 106 (.code aLu)) (.leaf 108 (.code aLv))))) (.node 115 (.node 110 (.leaf 109 (.code aLw)) (.node 111 (.leaf 110 (.code aLx)) (.leaf 111 (.code aLy)))) (.node 116 (.leaf 115 (.code aLz)) (.node 117 (.leaf 116 (.code aLA)) (.leaf 117 (.code aLB)))))) (.node 125 (.node 121 (.node 119 (.leaf 118 (.code aLC)) (.node 120 (.leaf 119 (.code aLD)) (.leaf 120 (.code aLE)))) (.node 122 (.leaf 121 (.code aLF)) (.node 124 (.leaf 122 (.code aLG)) (.leaf 124 (.code aLH))))) (.node 130 (.node 128 (.leaf 125 (.code aLI)) (.node 129 (.leaf 128 (.code aLJ)) (.leaf 129 (.code aLK)))) (.node 131 (.leaf 130 (.code aLL)) (.node 132 (.leaf 131 (.code aLM)) (.leaf 132 (.code aLN))))))) (.node 153 (.node 147 (.node 136 (.node 134 (.leaf 133 (.code aLO)) (.node 135 (.leaf 134 (.code aLP)) (.leaf 135 (.code aLQ)))) (.node 139 (.leaf 136 (.code aLR)) (.node 146 (.leaf 139 (.code aLS)) (.leaf 146 (.code aLT))))) (.node 150 (.node 148 (.leaf 147 (.code aLU)) (.node 149 (.leaf 148 (.code aLV)) (.leaf 149 (.code aLW)))) (.node 151 (.leaf 150 (.code aLX)) (.node 152 (.leaf 151 (.code aLY)) (.leaf 152 (.code aLZ)))))) (.node 163 (.node 156 (.node 154 (.leaf 153 (.code aL0)) (.node 155 (.leaf 154 (.code aL1)) (.leaf 155 (.code aL2)))) (.node 157 (.leaf 156 (.code aL3)) (.node 160 (.leaf 157 (.code aL4)) (.leaf 160 (.code aL5))))) (.node 166 (.node 164 (.leaf 163 (.code aL6)) (.node 165 (.leaf 164 (.code aL7)) (.leaf 165 (.code aL8)))) (.node 167 (.leaf 166 (.code aL9)) (.node 168 (.leaf 167 (.code aMa)) (.leaf 168 (.code aMb))))))))) (.node 227 (.node 201 (.node 183 (.node 176 (.node 173 (.node 170 (.leaf 169 (.code aMc)) (.node 171 (.leaf 170 (.code aMd)) (.leaf 171 (.code aMe)))) (.node 174 (.leaf 173 (.code aMf)) (.node 175 (.leaf 174 (.code aMg)) (.leaf 175 (.code aMh))))) (.node 180 (.node 178 (.leaf 176 (.code aMi)) (.node 179 (.leaf 178 (.code aMj)) (.leaf 179 (.code aMk)))) (.node 181 (.leaf 180 (.code aMl)) (.node 182 (.leaf 181 (.code aMm)) (.leaf 182 (.prim false (fS 3))))))) (.node 191 (.node 186 (.node 184 (.leaf 183 (.prim false (fS 3))) (.node 185 (.leaf 184 (.prim false (fS 5))) (.leaf 185 (.prim false (fS 1))))) (.node 189 (.leaf 186 (.prim false (fS 1))) (.node 190 (.leaf 189 (.code aMn)) (.leaf 190 (.code aMo))))) (.node 194 (.node 192 (.leaf 191 (.code aMp)) (.node 193 (.leaf 192 (.code aMq)) (.leaf 193 (.code aMr)))) (.node 195 (.leaf 194 (.code aMs)) (.node 197 (.leaf 195 (.code aMt)) (.leaf 197 (.code aMu))))))) (.node 215 (.node 207 (.node 204 (.node 202 (.leaf 201 (.code aMv)) (.node 203 (.leaf 202 (.code aMw)) (.leaf 203 (.code aMx)))) (.node 205 (.leaf 204 (.code aMy)) (.node 206 (.leaf 205 (.code aMz)) (.leaf 206 (.code aMA))))) (.node 212 (.node 209 (.leaf 207 (.code aMB)) (.node 211 (.leaf 209 (.code aMC)) (.leaf 211 (.code aMD)))) (.node 213 (.leaf 212 (.code aME)) (.node 214 (.leaf 213 (.code aMF)) (.leaf 214 (.code aMG)))))) (.node 221 (.node 218 (.node 216 (.leaf 215 (.code aMH)) (.node 217 (.leaf 216 (.code aMI)) (.leaf 217 (.code aMJ)))) (.node 219 (.leaf 218 (.code aMK)) (.node 220 (.leaf 219 (.code aML)) (.leaf 220 (.code aMM))))) (.node 224 (.node 222 (.leaf 221 (.code aMN)) (.node 223 (.leaf 222 (.code aMO)) (.leaf 223 (.code aMP)))) (.node 225 (.leaf 224 (.code aMQ)) (.node 226 (.leaf 225 (.code aMR)) (.leaf 226 (.code aMS)))))))) (.node 272 (.node 258 (.node 243 (.node 230 (.node 228 (.leaf 227 (.code aMT)) (.node 229 (.leaf 228 (.code aMU)) (.leaf 229 (.code aMV)))) (.node 241 (.leaf 230 (.code aMW)) (.node 242 (.leaf 241 (.code aMX)) (.leaf 242 (.prim false EU))))) (.node 255 (.node 253 (.leaf 243 (.code aMY)) (.node 254 (.leaf 253 (.code aMZ)) (.leaf 254 (.code aM0)))) (.node 256 (.leaf 255 (.code aM1)) (.node 257 (.leaf 256 (.code aM2)) (.leaf 257 (.code aM3)))))) (.node 266 (.node 263 (.node 259 (.leaf 258 (.code aM4)) (.node 260 (.leaf 259 (.code aM5)) (.leaf 260 (.code aM6)))) (.node 264 (.leaf 263 (.code aM7)) (.node 265 (.leaf 264 (.code aM8)) (.leaf 265 (.code aM9))))) (.node 269 (.node 267 (.leaf 266 (.code aNa)) (.node 268 (.leaf 267 (.code aE4)) (.leaf 268 (.code aE6)))) (.node 270 (.leaf 269 (.code aNb)) (.node 271 (.leaf 270 (.code aNc)) (.leaf 271 (.code aNd))))))) (.node 292 (.node 286 (.node 275 (.node 273 (.leaf 272 (.code aNe)) (.node 274 (.leaf 273 (.code aNf)) (.leaf 274 (.code aNg)))) (.node 276 (.leaf 275 (.code aAc)) (.node 282 (.leaf 276 (.code aNh)) (.leaf 282 (.code aNi))))) (.node 289 (.node 287 (.leaf 286 (.code aNj)) (.node 288 (.leaf 287 (.code aNk)) (.leaf 288 (.code aNl)))) (.node 290 (.leaf 289 (.code aNm)) (.node 291 (.leaf 290 (.code aNn)) (.leaf 291 (.code aNo)))))) (.node 298 (.node 295 (.node 293 (.leaf 292 (.code aNp)) (.node 294 (.leaf 293 (.code aNq)) (.leaf 294 (.code aNr)))) (.node 296 (.leaf 295 (.code aNs)) (.node 297 (.leaf 296 (.code aFr)) (.leaf 297 (.code aNt))))) (.node 302 (.node 299 (.leaf 298 (.code aBH)) (.node 300 (.leaf 299 (.code aNu)) (.leaf 300 (.code aNv)))) (.node 305 (.node 304 (.leaf 302 (.code aNw)) (.leaf 304 (.code aNx))) (.node 306 (.leaf 305 (.code aNy)) (.leaf 306 (.prim false (fS 1))))))))))
theorem XW:aPR.All (BI Go.Proofs.Tryz.prog):=⟨⟨⟨⟨⟨⟨⟨aPQ,⟨aKH,aKI⟩⟩,⟨aKJ,⟨aKK,aKL⟩⟩⟩,⟨⟨aKM,⟨aKN,aKO⟩⟩,⟨aKP,⟨aKQ,aKR⟩⟩⟩⟩,⟨⟨⟨aKS,⟨aKT,aKU⟩⟩,⟨aKV,⟨aKW,aKX⟩⟩⟩,⟨⟨aKY,⟨aKZ,aK0⟩⟩,⟨aK1,⟨aK2,aK3⟩⟩⟩⟩⟩,⟨⟨⟨⟨aK4,⟨aK5,aK6⟩⟩,⟨aK7,⟨aK8,aK9⟩⟩⟩,⟨⟨aLa,⟨aLb,aLc⟩⟩,⟨aLd,⟨aLe,aLf⟩⟩⟩⟩,⟨⟨⟨aLg,⟨aLh,aLi⟩⟩,⟨aLj,⟨aLk,aLl⟩⟩⟩,⟨⟨aLm,⟨aLn,aLo⟩⟩,⟨aLp,⟨aDj,aDk⟩⟩⟩⟩⟩⟩,⟨⟨⟨⟨⟨aFB,⟨aFC,aDl⟩⟩,⟨aDm,⟨aDn,aDo⟩⟩⟩,⟨⟨aDp,⟨aDq,aDr⟩⟩,⟨aDs,⟨aDt,aDu⟩⟩⟩⟩,⟨⟨⟨aDv,⟨aDw,aDx⟩⟩,⟨aDy,⟨aDz,aDA⟩⟩⟩,⟨⟨aDB,⟨aDC,aDD⟩⟩,⟨aDE,⟨aDF,aDG⟩⟩⟩⟩⟩,⟨⟨⟨⟨aDH,⟨aDI,aDJ⟩⟩,⟨aDK,⟨aDL,aDM⟩⟩⟩,⟨⟨aDN,⟨aDO,aDP⟩⟩,⟨aDQ,⟨aDR,aDS⟩⟩⟩⟩,⟨⟨⟨aDT,⟨aDU,aDV⟩⟩,⟨aDW,⟨aDX,aDY⟩⟩⟩,⟨⟨aDZ,⟨aD0,aD1⟩⟩,⟨aD2,⟨aD3,aD4⟩⟩⟩⟩⟩⟩⟩,⟨⟨⟨⟨⟨⟨aD5,⟨aD6,aD7⟩⟩,⟨aD8,⟨aD9,aEa⟩⟩⟩,⟨⟨aEb,⟨aEc,aEd⟩⟩,⟨aEe,⟨aEf,aFD⟩⟩⟩⟩,⟨⟨⟨aFE,⟨aFF,aFG⟩⟩,⟨aFH,⟨aEg,aEh⟩⟩⟩,⟨⟨aEi,⟨aEj,aEk⟩⟩,⟨aEl,⟨aEm,aEn⟩⟩⟩⟩⟩,⟨⟨⟨⟨aEo,⟨aEp,aEq⟩⟩,⟨aEr,⟨aEs,aEt⟩⟩⟩,⟨⟨aEu,⟨aEv,aEw⟩⟩,⟨aEx,⟨aEy,aEz⟩⟩⟩⟩,⟨⟨⟨aEA,⟨aEB,aEC⟩⟩,⟨aED,⟨aEE,aEF⟩⟩⟩,⟨⟨aEG,⟨aEH,aEI⟩⟩,⟨aEJ,⟨aEK,aEL⟩⟩⟩⟩⟩⟩,⟨⟨⟨⟨⟨aEM,⟨aEN,aEO⟩⟩,⟨aEP,⟨aEQ,aFI⟩⟩⟩,⟨⟨aER,⟨aES,aET⟩⟩,⟨aEU,⟨aEV,aEW⟩⟩⟩⟩,⟨⟨⟨aEX,⟨aEY,aEZ⟩⟩,⟨aE0,⟨aE1,aE2⟩⟩⟩,⟨⟨aE3,⟨aE5,aE7⟩⟩,⟨aE8,⟨aE9,aFa⟩⟩⟩⟩⟩,⟨⟨⟨⟨aFb,⟨aFc,aFd⟩⟩,⟨aFe,⟨aFf,aFg⟩⟩⟩,⟨⟨aFh,⟨aFi,aFj⟩⟩,⟨aFk,⟨aFl,aFm⟩⟩⟩⟩,⟨⟨⟨aFn,⟨aFo,aFp⟩⟩,⟨aFq,⟨aFs,aFt⟩⟩⟩,⟨⟨aFu,⟨aFv,aFw⟩⟩,⟨⟨aFx,aFy⟩,⟨aFz,aFJ⟩⟩⟩⟩⟩⟩⟩⟩
noncomputable def aW:pD:=aPR.get
theorem aKg:aW 7=some (.code x7):=rfl
theorem aNA:aW 11=some (.code x11):=rfl
theorem aNB:aW 12=some (.code x12):=rfl
theorem aNC:aW 13=some (.code x13):=rfl
theorem aND:aW 21=some (.code x21):=rfl
theorem aNE:aW 23=some (.code x23):=rfl
theorem aNF:aW 27=some (.code x27):=rfl
theorem aNG:aW 29=some (.code x29):=rfl
theorem aNH:aW 30=some (.code x30):=rfl
theorem aNI:aW 35=some (.code x35):=rfl
theorem aNJ:aW 36=some (.code x36):=rfl
theorem aNK:aW 38=some (.code x38):=rfl
theorem aNL:aW 42=some (.code x42):=rfl
theorem aNM:aW 43=some (.code x43):=rfl
theorem aNN:aW 44=some (.code x44):=rfl
theorem aNO:aW 45=some (.code x45):=rfl
theorem aNP:aW 46=some (.code x46):=rfl
theorem aNQ:aW 47=some (.code x47):=rfl
theorem aNR:aW 52=some (.code x52):=rfl
theorem aNS:aW 53=some (.code x53):=rfl
theorem aNT:aW 54=some (.code x54):=rfl
theorem aNU:aW 57=some (.code x57):=rfl
theorem aNV:aW 58=some (.code x58):=rfl
theorem aNW:aW 66=some (.code x66):=rfl
theorem aNX:aW 67=some (.code x67):=rfl
theorem aNY:aW 68=some (.code x68):=rfl
theorem aNZ:aW 69=some (.code x69):=rfl
theorem aN0:aW 70=some (.code x70):=rfl
theorem aN1:aW 71=some (.code x71):=rfl
theorem aN2:aW 72=some (.code x72):=rfl
theorem aN3:aW 73=some (.code x73):=rfl
theorem aN4:aW 77=some (.code x77):=rfl
theorem aN5:aW 78=some (.code x78):=rfl
theorem aN6:aW 79=some (.code x79):=rfl
theorem aN7:aW 80=some (.code x80):=rfl
theorem aN8:aW 81=some (.code x81):=rfl
theorem aN9:aW 82=some (.code x82):=rfl
theorem aOa:aW 87=some (.code x87):=rfl
theorem aOb:aW 88=some (.code x88):=rfl
theorem aBK:aW 89=some (.code x89):=rfl
theorem aBL:aW 91=some (.code x91):=rfl
theorem aOc:aW 92=some (.code x92):=rfl
theorem aOd:aW 94=some (.code x94):=rfl
theorem aOe:aW 97=some (.code x97):=rfl
theorem aOf:aW 98=some (.code x98):=rfl
theorem aOg:aW 99=some (.code x99):=rfl
theorem aFK:aW 100=some (.code aLq):=rfl
theorem aFL:aW 101=some (.code aLr):=rfl
theorem aFM:aW 102=some (.shp (O2 3)):=rfl
theorem aFN:aW 103=some (.prim false (fS 3)):=rfl
theorem aFO:aW 104=some (.code aLs):=rfl
theorem aFP:aW 105=some (.code aLt):=rfl
theorem aFQ:aW 106=some (.code aLu):=rfl
theorem aFR:aW 108=some (.code aLv):=rfl
theorem aFS:aW 109=some (.code aLw):=rfl
theorem aFT:aW 110=some (.code aLx):=rfl
theorem aFU:aW 111=some (.code aLy):=rfl
theorem aFV:aW 115=some (.code aLz):=rfl
theorem aFW:aW 116=some (.code aLA):=rfl
theorem aFX:aW 117=some (.code aLB):=rfl
theorem aFY:aW 118=some (.code aLC):=rfl
theorem aFZ:aW 119=some (.code aLD):=rfl
theorem aF0:aW 120=some (.code aLE):=rfl
theorem aF1:aW 121=some (.code aLF):=rfl
theorem aF2:aW 122=some (.code aLG):=rfl
theorem aF3:aW 124=some (.code aLH):=rfl
theorem XX:aW 125=some (.code aLI):=rfl
theorem aF4:aW 128=some (.code aLJ):=rfl
theorem aF5:aW 129=some (.code aLK):=rfl
theorem aF6:aW 130=some (.code aLL):=rfl
theorem aF7:aW 131=some (.code aLM):=rfl
theorem aF8:aW 132=some (.code aLN):=rfl
theorem aF9:aW 133=some (.code aLO):=rfl
theorem aGa:aW 134=some (.code aLP):=rfl
theorem aGb:aW 135=some (.code aLQ):=rfl
theorem aGc:aW 136=some (.code aLR):=rfl
theorem aGd:aW 139=some (.code aLS):=rfl
theorem aGe:aW 146=some (.code aLT):=rfl
theorem XY:aW 147=some (.code aLU):=rfl
theorem XZ:aW 148=some (.code aLV):=rfl
theorem X0:aW 149=some (.code aLW):=rfl
theorem aGf:aW 150=some (.code aLX):=rfl
theorem aGg:aW 151=some (.code aLY):=rfl
theorem aGh:aW 152=some (.code aLZ):=rfl
theorem aGi:aW 153=some (.code aL0):=rfl
theorem aGj:aW 154=some (.code aL1):=rfl
theorem X1:aW 155=some (.code aL2):=rfl
theorem aGk:aW 156=some (.code aL3):=rfl
theorem aGl:aW 157=some (.code aL4):=rfl
theorem aGm:aW 160=some (.code aL5):=rfl
theorem aGn:aW 163=some (.code aL6):=rfl
theorem aGo:aW 164=some (.code aL7):=rfl
theorem aGp:aW 165=some (.code aL8):=rfl
theorem X2:aW 166=some (.code aL9):=rfl
theorem aGq:aW 167=some (.code aMa):=rfl
theorem aGr:aW 168=some (.code aMb):=rfl
theorem aGs:aW 169=some (.code aMc):=rfl
theorem aGt:aW 170=some (.code aMd):=rfl
theorem PY:aW 171=some (.code aMe):=rfl
theorem aGu:aW 173=some (.code aMf):=rfl
theorem aGv:aW 174=some (.code aMg):=rfl
theorem aGw:aW 175=some (.code aMh):=rfl
theorem aGx:aW 176=some (.code aMi):=rfl
theorem aGy:aW 178=some (.code aMj):=rfl
theorem aGz:aW 179=some (.code aMk):=rfl
theorem aGA:aW 180=some (.code aMl):=rfl
theorem aGB:aW 181=some (.code aMm):=rfl
theorem aGC:aW 182=some (.prim false (fS 3)):=rfl
theorem aGD:aW 183=some (.prim false (fS 3)):=rfl
theorem aGE:aW 184=some (.prim false (fS 5)):=rfl
theorem aGF:aW 185=some (.prim false (fS 1)):=rfl
theorem aGG:aW 186=some (.prim false (fS 1)):=rfl
theorem aGH:aW 189=some (.code aMn):=rfl
theorem aGI:aW 190=some (.code aMo):=rfl
theorem aGJ:aW 191=some (.code aMp):=rfl
theorem aGK:aW 192=some (.code aMq):=rfl
theorem aGL:aW 193=some (.code aMr):=rfl
theorem aGM:aW 194=some (.code aMs):=rfl
theorem aGN:aW 195=some (.code aMt):=rfl
theorem aGO:aW 197=some (.code aMu):=rfl
theorem aGP:aW 201=some (.code aMv):=rfl
theorem X3:aW 202=some (.code aMw):=rfl
theorem aGQ:aW 203=some (.code aMx):=rfl
theorem aGR:aW 204=some (.code aMy):=rfl
theorem aGS:aW 205=some (.code aMz):=rfl
theorem aGT:aW 206=some (.code aMA):=rfl
theorem aGU:aW 207=some (.code aMB):=rfl
theorem aGV:aW 209=some (.code aMC):=rfl
theorem aGW:aW 211=some (.code aMD):=rfl
theorem aGX:aW 212=some (.code aME):=rfl
theorem aGY:aW 213=some (.code aMF):=rfl
theorem aGZ:aW 214=some (.code aMG):=rfl
theorem aG0:aW 215=some (.code aMH):=rfl
theorem aG1:aW 216=some (.code aMI):=rfl
theorem aG2:aW 217=some (.code aMJ):=rfl
theorem aG3:aW 218=some (.code aMK):=rfl
theorem aG4:aW 219=some (.code aML):=rfl
theorem aG5:aW 220=some (.code aMM):=rfl
theorem aG6:aW 221=some (.code aMN):=rfl
theorem PZ:aW 222=some (.code aMO):=rfl
theorem aG7:aW 223=some (.code aMP):=rfl
theorem aG8:aW 224=some (.code aMQ):=rfl
theorem aG9:aW 225=some (.code aMR):=rfl
theorem aHa:aW 226=some (.code aMS):=rfl
theorem aHb:aW 227=some (.code aMT):=rfl
theorem aHc:aW 228=some (.code aMU):=rfl
theorem aHd:aW 229=some (.code aMV):=rfl
theorem aHe:aW 230=some (.code aMW):=rfl
theorem aHf:aW 241=some (.code aMX):=rfl
theorem aHg:aW 242=some (.prim false EU):=rfl
theorem aHh:aW 243=some (.code aMY):=rfl
theorem aHi:aW 253=some (.code aMZ):=rfl
theorem aHj:aW 254=some (.code aM0):=rfl
theorem aHk:aW 255=some (.code aM1):=rfl
theorem aHl:aW 256=some (.code aM2):=rfl
theorem aHm:aW 257=some (.code aM3):=rfl
theorem aHn:aW 258=some (.code aM4):=rfl
theorem aHo:aW 259=some (.code aM5):=rfl
theorem aHp:aW 260=some (.code aM6):=rfl
theorem aHq:aW 263=some (.code aM7):=rfl
theorem aHr:aW 264=some (.code aM8):=rfl
theorem aHs:aW 265=some (.code aM9):=rfl
theorem aHt:aW 266=some (.code aNa):=rfl
theorem aHu:aW 267=some (.code aE4):=rfl
theorem aHv:aW 268=some (.code aE6):=rfl
theorem aHw:aW 269=some (.code aNb):=rfl
theorem aHx:aW 270=some (.code aNc):=rfl
theorem aHy:aW 271=some (.code aNd):=rfl
theorem aHz:aW 272=some (.code aNe):=rfl
theorem aHA:aW 273=some (.code aNf):=rfl
theorem aHB:aW 274=some (.code aNg):=rfl
theorem P0:aW 275=some (.code aAc):=rfl
theorem X4:aW 276=some (.code aNh):=rfl
theorem aHC:aW 282=some (.code aNi):=rfl
theorem P1:aW 286=some (.code aNj):=rfl
theorem aHD:aW 287=some (.code aNk):=rfl
theorem X5:aW 288=some (.code aNl):=rfl
theorem P2:aW 289=some (.code aNm):=rfl
theorem aHE:aW 290=some (.code aNn):=rfl
theorem aHF:aW 291=some (.code aNo):=rfl
theorem aHG:aW 292=some (.code aNp):=rfl
theorem aHH:aW 293=some (.code aNq):=rfl
theorem aHI:aW 294=some (.code aNr):=rfl
theorem aHJ:aW 295=some (.code aNs):=rfl
theorem aHK:aW 296=some (.code aFr):=rfl
theorem aHL:aW 297=some (.code aNt):=rfl
theorem X6:aW 298=some (.code aBH):=rfl
theorem aHM:aW 299=some (.code aNu):=rfl
theorem X7:aW 300=some (.code aNv):=rfl
theorem aHN:aW 302=some (.code aNw):=rfl
theorem aHO:aW 304=some (.code aNx):=rfl
theorem aHP:aW 305=some (.code aNy):=rfl
theorem aHQ:aW 306=some (.prim false (fS 1)):=rfl
end Go.Proofs.YthljmpcakagceaaGreat
