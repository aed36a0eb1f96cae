/- The table of the seat's functions. Printed by a program. -/
import Derived.Test.YtfejhjllooomlaaGreatCQX1
import Derived.Test.YtfejhjllooomlaaGreatCQIN
import Derived.Test.YtfejhjllooomlaaGreatChecked
set_option maxRecDepth 100000
namespace Go.Proofs.YtfejhjllooomlaaGreat
open Go.Vm
theorem nW:Go.Proofs.Tryz.prog.follows .mixedOrders=true:=Go.Proofs.Tryz.checked.mixed
theorem aOj:B9 Go.Proofs.Tryz.prog 64 (.prim false (gD 1)):=⟨rfl,pX nW (zero:=[.int .i64 0]) (by decide+kernel)⟩
theorem aOk:B9 Go.Proofs.Tryz.prog 90 (.shp (QH 3)):=aOi
theorem aOl:B9 Go.Proofs.Tryz.prog 91 (.prim false (gD 3)):=⟨rfl,pX nW (zero:=[.int .i64 0,.int .i64 0,.int .i64 0]) (by decide+kernel)⟩
theorem aGt:B9 Go.Proofs.Tryz.prog 170 (.prim false (gD 3)):=⟨rfl,pX nW (zero:=[.int .i64 0,.int .i64 0,.int .i64 0]) (by decide+kernel)⟩
theorem aGu:B9 Go.Proofs.Tryz.prog 171 (.prim false (gD 3)):=⟨rfl,pX nW (zero:=[.int .i64 0,.int .i64 0,.int .i64 0]) (by decide+kernel)⟩
theorem aGv:B9 Go.Proofs.Tryz.prog 172 (.prim false (gD 5)):=⟨rfl,pX nW (zero:=[.int .i64 0,.int .i64 0,.int .i64 0,.int .i64 0,.int .i64 0]) (by decide+kernel)⟩
theorem aGw:B9 Go.Proofs.Tryz.prog 173 (.prim false (gD 1)):=⟨rfl,pX nW (zero:=[.bool false]) (by decide+kernel)⟩
theorem aGx:B9 Go.Proofs.Tryz.prog 275 (.prim false FL):=⟨rfl,WD Go.Proofs.Tryz.func275 (by kernel_rfl) (by kernel_rfl) (by kernel_rfl) (by kernel_rfl)⟩
theorem aGy:B9 Go.Proofs.Tryz.prog 290 (.prim false (gD 1)):=⟨rfl,pX nW (zero:=[.int .i64 0]) (by decide+kernel)⟩
noncomputable def aQW:TT:= .node 151 (.node 88 (.node 51 (.node 30 (.node 19 (.node 13 (.node 11 (.leaf 7 (.code x7)) (.node 12 (.leaf 11 (.code x11)) (.leaf 12 (.code x12)))) (.node 15 (.leaf 13 (.code x13)) (.node 17 (.leaf 15 (.code x15)) (.leaf 17 (.code x17))))) (.node 25 (.node 21 (.leaf 19 (.code x19)) (.node 22 (.leaf 21 (.code x21)) (.leaf 22 (.code x22)))) (.node 26 (.leaf 25 (.code x25)) (.node 29 (.leaf 26 (.code x26)) (.leaf 29 (.code x29)))))) (.node 39 (.node 36 (.node 32 (.leaf 30 (.code x30)) (.node 34 (.leaf 32 (.code x32)) (.leaf 34 (.code x34)))) (.node 37 (.leaf 36 (.code x36)) (.node 38 (.leaf 37 (.code x37)) (.leaf 38 (.code x38))))) (.node 44 (.node 40 (.leaf 39 (.code x39)) (.node 43 (.leaf 40 (.code x40)) (.leaf 43 (.code x43)))) (.node 47 (.node 45 (.leaf 44 (.code x44)) (.leaf 45 (.code x45))) (.node 48 (.leaf 47 (.code x47)) (.leaf 48 (.code x48))))))) (.node 68 (.node 57 (.node 54 (.node 52 (.leaf 51 (.code x51)) (.node 53 (.leaf 52 (.code x52)) (.leaf 53 (.code x53)))) (.node 55 (.leaf 54 (.code x54)) (.node 56 (.leaf 55 (.code x55)) (.leaf 56 (.code x56))))) (.node 60 (.node 58 (.leaf 57 (.code x57)) (.node 59 (.leaf 58 (.code x58)) (.leaf 59 (.code x59)))) (.node 64 (.node 61 (.leaf 60 (.code x60)) (.leaf 61 (.code x61))) (.node 65 (.leaf 64 (.prim false (gD 1))) (.leaf 65 (.code x65)))))) (.node 78 (.node 72 (.node 69 (.leaf 68 (.code x68)) (.node 70 (.leaf 69 (.code x69)) (.leaf 70 (.code x70)))) (.node 73 (.leaf 72 (.code x72)) (.node 77 (.leaf 73 (.code x73)) (.leaf 77 (.code x77))))) (.node 83 (.node 79 (.leaf 78 (.code x78)) (.node 82 (.leaf 79 (.code x79)) (.leaf 82 (.code x82)))) (.node 86 (.node 85 (.leaf 83 (.code x83)) (.leaf 85 (.code x85))) (.node 87 (.leaf 86 (.code x86)) (.leaf 87 (.code x87)))))))) (.node 115 (.node 100 (.node 94 (.node 91 (.node 89 (.leaf 88 (.code x88)) (.node 90 (.leaf 89 (.code x89)) (.leaf 90 (.shp (QH 3))))) (.node 92 (.leaf 91 (.prim false (gD 3))) (.node 93 (.leaf 92 (.code x92)) (.leaf 93 (.code x93))))) (.node 97 (.node 95 (.leaf 94 (.code x94)) (.node 96 (.leaf 95 (.code x95)) (.leaf 96 (.code x96)))) (.node 98 (.leaf 97 (.code x97)) (.node 99 (.leaf 98 (.code x98)) (.leaf 99 (.code x99)))))) (.node 106 (.node 103 (.node 101 (.leaf 100 (.code aMf)) (.node 102 (.leaf 101 (.code aMg)) (.leaf 102 (.code aMh)))) (.node 104 (.leaf 103 (.code aMi)) (.node 105 (.leaf 104 (.code aMj)) (.leaf 105 (.code aMk))))) (.node 109 (.node 107 (.leaf 106 (.code aMl)) (.node 108 (.leaf 107 (.code aMm)) (.leaf 108 (.code aMn)))) (.node 111 (.node 110 (.leaf 109 (.code aMo)) (.leaf 110 (.code aMp))) (.node 112 (.leaf 111 (.code aMq)) (.leaf 112 (.code aMr))))))) (.node 137 (.node 122 (.node 119 (.node 116 (.leaf 115 (.code aMs)) (.node 117 (.leaf 116 (.code aMt)) (.leaf 117 (.code aMu)))) (.node 120 (.leaf 119 (.code aMv)) (.node 121 (.leaf 120 (.code aMw)) (.leaf 121 (.code aMx))))) (.node 125 (.node 123 (.leaf 122 (.code aMy)) (.node 124 (.leaf 123 (.code aMz)) (.leaf 124 (.code aMA)))) (.node 131 (.node 128 (.leaf 125 (.code aMB)) (.leaf 128 (.code aMC))) (.node 136 (.leaf 131 (.code aMD)) (.leaf 136 (.code aME)))))) (.node 143 (.node 140 (.node 138 (.leaf 137 (.code aMF)) (.node 139 (.leaf 138 (.code aAY)) (.leaf 139 (.code aMG)))) (.node 141 (.leaf 140 (.code aAZ)) (.node 142 (.leaf 141 (.code aA0)) (.leaf 142 (.code aMH))))) (.node 147 (.node 144 (.leaf 143 (.code aMI)) (.node 146 (.leaf 144 (.code aMJ)) (.leaf 146 (.code aMK)))) (.node 149 (.node 148 (.leaf 147 (.code aML)) (.leaf 148 (.code aMM))) (.node 150 (.leaf 149 (.code aMN)) (.leaf 150 (.code aMO))))))))) (.node 212 (.node 181 (.node 165 (.node 159 (.node 156 (.node 154 (.leaf 151 (.code aMP)) (.node 155 (.leaf 154 (.code aMQ)) (.leaf 155 (.code aMR)))) (.node 157 (.leaf 156 (.code aMS)) (.node 158 (.leaf 157 (.code aMT)) (.leaf 158 (.code aMU))))) (.node 162 (.node 160 (.leaf 159 (.code aMV)) (.node 161 (.leaf 160 (.code aMW)) (.leaf 161 (.code aMX)))) (.node 163 (.leaf 162 (.code aMY)) (.node 164 (.leaf 163 (.code aMZ)) (.leaf 164 (.code aM0)))))) (.node 172 (.node 168 (.node 166 (.leaf 165 (.code aM1)) (.node 167 (.leaf 166 (.code aM2)) (.leaf 167 (.code aM3)))) (.node 170 (.leaf 168 (.code aM4)) (.node 171 (.leaf 170 (.prim false (gD 3))) (.leaf 171 (.prim false (gD 3)))))) (.node 175 (.node 173 (.leaf 172 (.prim false (gD 5))) (.node 174 (.leaf 173 (.prim false (gD 1))) (.leaf 174 (.code aM5)))) (.node 179 (.node 178 (.leaf 175 (.code aM6)) (.leaf 178 (.code aM7))) (.node 180 (.leaf 179 (.code aM8)) (.leaf 180 (.code aM9))))))) (.node 198 (.node 189 (.node 184 (.node 182 (.leaf 181 (.code aNa)) (.node 183 (.leaf 182 (.code aNb)) (.leaf 183 (.code aNc)))) (.node 185 (.leaf 184 (.code aNd)) (.node 186 (.leaf 185 (.code aNe)) (.leaf 186 (.code aNf))))) (.node 194 (.node 190 (.leaf 189 (.code aNg)) (.node 192 (.leaf 190 (.code aNh)) (.leaf 192 (.code aNi)))) (.node 196 (.node 195 (.leaf 194 (.code aNj)) (.leaf 195 (.code aNk))) (.node 197 (.leaf 196 (.code aNl)) (.leaf 197 (.code aNm)))))) (.node 205 (.node 201 (.node 199 (.leaf 198 (.code aNn)) (.node 200 (.leaf 199 (.code aNo)) (.leaf 200 (.code aNp)))) (.node 202 (.leaf 201 (.code aNq)) (.node 203 (.leaf 202 (.code aNr)) (.leaf 203 (.code aNs))))) (.node 208 (.node 206 (.leaf 205 (.code aNt)) (.node 207 (.leaf 206 (.code aNu)) (.leaf 207 (.code aNv)))) (.node 210 (.node 209 (.leaf 208 (.code aNw)) (.leaf 209 (.code aNx))) (.node 211 (.leaf 210 (.code aNy)) (.leaf 211 (.code aNz)))))))) (.node 257 (.node 225 (.node 219 (.node 216 (.node 213 (.leaf 212 (.code aNA)) (.node 215 (.leaf 213 (.code aNB)) (.leaf 215 (.code aNC)))) (.node 217 (.leaf 216 (.code aND)) (.node 218 (.leaf 217 (.code aNE)) (.leaf 218 (.code aNF))))) (.node 222 (.node 220 (.leaf 219 (.code aA1)) (.node 221 (.leaf 220 (.code aNG)) (.leaf 221 (.code aNH)))) (.node 223 (.leaf 222 (.code aNI)) (.node 224 (.leaf 223 (.code aNJ)) (.leaf 224 (.code aNK)))))) (.node 249 (.node 238 (.node 226 (.leaf 225 (.code aNL)) (.node 237 (.leaf 226 (.code aNM)) (.leaf 237 (.code aNN)))) (.node 247 (.leaf 238 (.code aNO)) (.node 248 (.leaf 247 (.code aNP)) (.leaf 248 (.code aNQ))))) (.node 252 (.node 250 (.leaf 249 (.code aNR)) (.node 251 (.leaf 250 (.code aNS)) (.leaf 251 (.code aNT)))) (.node 254 (.node 253 (.leaf 252 (.code aNU)) (.leaf 253 (.code aNV))) (.node 255 (.leaf 254 (.code aNW)) (.leaf 255 (.code aNX))))))) (.node 279 (.node 264 (.node 260 (.node 258 (.leaf 257 (.code aNY)) (.node 259 (.leaf 258 (.code aF2)) (.leaf 259 (.code aF4)))) (.node 261 (.leaf 260 (.code aNZ)) (.node 262 (.leaf 261 (.code aN0)) (.leaf 262 (.code aN1))))) (.node 267 (.node 265 (.leaf 264 (.code aN2)) (.node 266 (.leaf 265 (.code aN3)) (.leaf 266 (.code aN4)))) (.node 269 (.node 268 (.leaf 267 (.code aN5)) (.leaf 268 (.code aCx))) (.node 275 (.leaf 269 (.code aN6)) (.leaf 275 (.prim false FL)))))) (.node 285 (.node 282 (.node 280 (.leaf 279 (.code aN7)) (.node 281 (.leaf 280 (.code aN8)) (.leaf 281 (.code aN9)))) (.node 283 (.leaf 282 (.code aOa)) (.node 284 (.leaf 283 (.code aOb)) (.leaf 284 (.code aOc))))) (.node 288 (.node 286 (.leaf 285 (.code aOd)) (.node 287 (.leaf 286 (.code aGm)) (.leaf 287 (.code aOe)))) (.node 290 (.node 289 (.leaf 288 (.code aOf)) (.leaf 289 (.code aOg))) (.node 291 (.leaf 290 (.prim false (gD 1))) (.leaf 291 (.code aOh)))))))))
theorem Y7:aQW.All (B9 Go.Proofs.Tryz.prog):=⟨⟨⟨⟨⟨⟨⟨aQV,⟨aLi,aLj⟩⟩,⟨aLk,⟨aLl,aLm⟩⟩⟩,⟨⟨aLn,⟨aLo,aLp⟩⟩,⟨aLq,⟨aLr,aLs⟩⟩⟩⟩,⟨⟨⟨aLt,⟨aLu,aLv⟩⟩,⟨aLw,⟨aLx,aLy⟩⟩⟩,⟨⟨aLz,⟨aLA,aLB⟩⟩,⟨⟨aLC,aLD⟩,⟨aLE,aLF⟩⟩⟩⟩⟩,⟨⟨⟨⟨aLG,⟨aLH,aLI⟩⟩,⟨aLJ,⟨aLK,aLL⟩⟩⟩,⟨⟨aLM,⟨aLN,aLO⟩⟩,⟨⟨aLP,aLQ⟩,⟨aOj,aLR⟩⟩⟩⟩,⟨⟨⟨aLS,⟨aLT,aLU⟩⟩,⟨aLV,⟨aLW,aLX⟩⟩⟩,⟨⟨aLY,⟨aLZ,aL0⟩⟩,⟨⟨aL1,aL2⟩,⟨aL3,aL4⟩⟩⟩⟩⟩⟩,⟨⟨⟨⟨⟨aL5,⟨aL6,aOk⟩⟩,⟨aOl,⟨aL7,aL8⟩⟩⟩,⟨⟨aL9,⟨aMa,aMb⟩⟩,⟨aMc,⟨aMd,aMe⟩⟩⟩⟩,⟨⟨⟨aEe,⟨aEf,aEg⟩⟩,⟨aEh,⟨aEi,aEj⟩⟩⟩,⟨⟨aEk,⟨aEl,aEm⟩⟩,⟨⟨aEn,aEo⟩,⟨aEp,aEq⟩⟩⟩⟩⟩,⟨⟨⟨⟨aEr,⟨aEs,aEt⟩⟩,⟨aEu,⟨aEv,aEw⟩⟩⟩,⟨⟨aEx,⟨aEy,aEz⟩⟩,⟨⟨aEA,aEB⟩,⟨aEC,aED⟩⟩⟩⟩,⟨⟨⟨aEE,⟨aEF,aEG⟩⟩,⟨aEH,⟨aEI,aEJ⟩⟩⟩,⟨⟨aEK,⟨aEL,aEM⟩⟩,⟨⟨aEN,aEO⟩,⟨aEP,aEQ⟩⟩⟩⟩⟩⟩⟩,⟨⟨⟨⟨⟨⟨aER,⟨aES,aET⟩⟩,⟨aEU,⟨aEV,aEW⟩⟩⟩,⟨⟨aEX,⟨aEY,aEZ⟩⟩,⟨aE0,⟨aE1,aE2⟩⟩⟩⟩,⟨⟨⟨aE3,⟨aE4,aE5⟩⟩,⟨aE6,⟨aGt,aGu⟩⟩⟩,⟨⟨aGv,⟨aGw,aE7⟩⟩,⟨⟨aE8,aE9⟩,⟨aFa,aFb⟩⟩⟩⟩⟩,⟨⟨⟨⟨aFc,⟨aFd,aFe⟩⟩,⟨aFf,⟨aFg,aFh⟩⟩⟩,⟨⟨aFi,⟨aFj,aFk⟩⟩,⟨⟨aFl,aFm⟩,⟨aFn,aFo⟩⟩⟩⟩,⟨⟨⟨aFp,⟨aFq,aFr⟩⟩,⟨aFs,⟨aFt,aFu⟩⟩⟩,⟨⟨aFv,⟨aFw,aFx⟩⟩,⟨⟨aFy,aFz⟩,⟨aFA,aFB⟩⟩⟩⟩⟩⟩,⟨⟨⟨⟨⟨aFC,⟨aFD,aFE⟩⟩,⟨aFF,⟨aFG,aFH⟩⟩⟩,⟨⟨aFI,⟨aFJ,aFK⟩⟩,⟨aFL,⟨aFM,aFN⟩⟩⟩⟩,⟨⟨⟨aFO,⟨aFP,aFQ⟩⟩,⟨aFR,⟨aFS,aFT⟩⟩⟩,⟨⟨aFU,⟨aFV,aFW⟩⟩,⟨⟨aFX,aFY⟩,⟨aFZ,aF0⟩⟩⟩⟩⟩,⟨⟨⟨⟨aF1,⟨aF3,aF5⟩⟩,⟨aF6,⟨aF7,aF8⟩⟩⟩,⟨⟨aF9,⟨aGa,aGb⟩⟩,⟨⟨aGc,aGd⟩,⟨aGe,aGx⟩⟩⟩⟩,⟨⟨⟨aGf,⟨aGg,aGh⟩⟩,⟨aGi,⟨aGj,aGk⟩⟩⟩,⟨⟨aGl,⟨aGn,aGo⟩⟩,⟨⟨aGp,aGq⟩,⟨aGy,aGr⟩⟩⟩⟩⟩⟩⟩⟩
noncomputable def aW:pW:=aQW.get
theorem aKU:aW 7=some (.code x7):=rfl
theorem aOm:aW 11=some (.code x11):=rfl
theorem aOn:aW 12=some (.code x12):=rfl
theorem aOo:aW 13=some (.code x13):=rfl
theorem aOp:aW 15=some (.code x15):=rfl
theorem aOq:aW 17=some (.code x17):=rfl
theorem aOr:aW 19=some (.code x19):=rfl
theorem aOs:aW 21=some (.code x21):=rfl
theorem aOt:aW 22=some (.code x22):=rfl
theorem aOu:aW 25=some (.code x25):=rfl
theorem aOv:aW 26=some (.code x26):=rfl
theorem aOw:aW 29=some (.code x29):=rfl
theorem aOx:aW 30=some (.code x30):=rfl
theorem aOy:aW 32=some (.code x32):=rfl
theorem aOz:aW 34=some (.code x34):=rfl
theorem aOA:aW 36=some (.code x36):=rfl
theorem aOB:aW 37=some (.code x37):=rfl
theorem aOC:aW 38=some (.code x38):=rfl
theorem aOD:aW 39=some (.code x39):=rfl
theorem aOE:aW 40=some (.code x40):=rfl
theorem aOF:aW 43=some (.code x43):=rfl
theorem aOG:aW 44=some (.code x44):=rfl
theorem aOH:aW 45=some (.code x45):=rfl
theorem aOI:aW 47=some (.code x47):=rfl
theorem aOJ:aW 48=some (.code x48):=rfl
theorem aOK:aW 51=some (.code x51):=rfl
theorem aOL:aW 52=some (.code x52):=rfl
theorem aOM:aW 53=some (.code x53):=rfl
theorem aON:aW 54=some (.code x54):=rfl
theorem aCA:aW 55=some (.code x55):=rfl
theorem aOO:aW 56=some (.code x56):=rfl
theorem aOP:aW 57=some (.code x57):=rfl
theorem aOQ:aW 58=some (.code x58):=rfl
theorem aOR:aW 59=some (.code x59):=rfl
theorem aOS:aW 60=some (.code x60):=rfl
theorem aOT:aW 61=some (.code x61):=rfl
theorem aOU:aW 64=some (.prim false (gD 1)):=rfl
theorem aOV:aW 65=some (.code x65):=rfl
theorem aOW:aW 68=some (.code x68):=rfl
theorem aOX:aW 69=some (.code x69):=rfl
theorem aOY:aW 70=some (.code x70):=rfl
theorem aOZ:aW 72=some (.code x72):=rfl
theorem aO0:aW 73=some (.code x73):=rfl
theorem aCB:aW 77=some (.code x77):=rfl
theorem W7:aW 78=some (.code x78):=rfl
theorem aO1:aW 79=some (.code x79):=rfl
theorem aCC:aW 82=some (.code x82):=rfl
theorem aO2:aW 83=some (.code x83):=rfl
theorem aO3:aW 85=some (.code x85):=rfl
theorem aCD:aW 86=some (.code x86):=rfl
theorem aO4:aW 87=some (.code x87):=rfl
theorem aO5:aW 88=some (.code x88):=rfl
theorem aO6:aW 89=some (.code x89):=rfl
theorem aO7:aW 90=some (.shp (QH 3)):=rfl
theorem aO8:aW 91=some (.prim false (gD 3)):=rfl
theorem aO9:aW 92=some (.code x92):=rfl
theorem aPa:aW 93=some (.code x93):=rfl
theorem aPb:aW 94=some (.code x94):=rfl
theorem aPc:aW 95=some (.code x95):=rfl
theorem aPd:aW 96=some (.code x96):=rfl
theorem aPe:aW 97=some (.code x97):=rfl
theorem aPf:aW 98=some (.code x98):=rfl
theorem aPg:aW 99=some (.code x99):=rfl
theorem aGz:aW 100=some (.code aMf):=rfl
theorem aGA:aW 101=some (.code aMg):=rfl
theorem aGB:aW 102=some (.code aMh):=rfl
theorem aGC:aW 103=some (.code aMi):=rfl
theorem aGD:aW 104=some (.code aMj):=rfl
theorem aGE:aW 105=some (.code aMk):=rfl
theorem aGF:aW 106=some (.code aMl):=rfl
theorem aGG:aW 107=some (.code aMm):=rfl
theorem aGH:aW 108=some (.code aMn):=rfl
theorem aGI:aW 109=some (.code aMo):=rfl
theorem aGJ:aW 110=some (.code aMp):=rfl
theorem aGK:aW 111=some (.code aMq):=rfl
theorem aGL:aW 112=some (.code aMr):=rfl
theorem Y8:aW 115=some (.code aMs):=rfl
theorem aGM:aW 116=some (.code aMt):=rfl
theorem aGN:aW 117=some (.code aMu):=rfl
theorem aGO:aW 119=some (.code aMv):=rfl
theorem aGP:aW 120=some (.code aMw):=rfl
theorem aGQ:aW 121=some (.code aMx):=rfl
theorem Y9:aW 122=some (.code aMy):=rfl
theorem aGR:aW 123=some (.code aMz):=rfl
theorem aGS:aW 124=some (.code aMA):=rfl
theorem aGT:aW 125=some (.code aMB):=rfl
theorem aGU:aW 128=some (.code aMC):=rfl
theorem aGV:aW 131=some (.code aMD):=rfl
theorem ZA:aW 136=some (.code aME):=rfl
theorem ZB:aW 137=some (.code aMF):=rfl
theorem RC:aW 138=some (.code aAY):=rfl
theorem aGW:aW 139=some (.code aMG):=rfl
theorem RD:aW 140=some (.code aAZ):=rfl
theorem RE:aW 141=some (.code aA0):=rfl
theorem aGX:aW 142=some (.code aMH):=rfl
theorem aGY:aW 143=some (.code aMI):=rfl
theorem aGZ:aW 144=some (.code aMJ):=rfl
theorem aG0:aW 146=some (.code aMK):=rfl
theorem aG1:aW 147=some (.code aML):=rfl
theorem aG2:aW 148=some (.code aMM):=rfl
theorem ZC:aW 149=some (.code aMN):=rfl
theorem aG3:aW 150=some (.code aMO):=rfl
theorem aG4:aW 151=some (.code aMP):=rfl
theorem aG5:aW 154=some (.code aMQ):=rfl
theorem aG6:aW 155=some (.code aMR):=rfl
theorem aG7:aW 156=some (.code aMS):=rfl
theorem aG8:aW 157=some (.code aMT):=rfl
theorem aG9:aW 158=some (.code aMU):=rfl
theorem aHa:aW 159=some (.code aMV):=rfl
theorem aHb:aW 160=some (.code aMW):=rfl
theorem aHc:aW 161=some (.code aMX):=rfl
theorem aHd:aW 162=some (.code aMY):=rfl
theorem aHe:aW 163=some (.code aMZ):=rfl
theorem aHf:aW 164=some (.code aM0):=rfl
theorem aHg:aW 165=some (.code aM1):=rfl
theorem aHh:aW 166=some (.code aM2):=rfl
theorem aHi:aW 167=some (.code aM3):=rfl
theorem aHj:aW 168=some (.code aM4):=rfl
theorem aHk:aW 170=some (.prim false (gD 3)):=rfl
theorem aHl:aW 171=some (.prim false (gD 3)):=rfl
theorem aHm:aW 172=some (.prim false (gD 5)):=rfl
theorem aHn:aW 173=some (.prim false (gD 1)):=rfl
theorem aHo:aW 174=some (.code aM5):=rfl
theorem aHp:aW 175=some (.code aM6):=rfl
theorem aHq:aW 178=some (.code aM7):=rfl
theorem aHr:aW 179=some (.code aM8):=rfl
theorem aHs:aW 180=some (.code aM9):=rfl
theorem aHt:aW 181=some (.code aNa):=rfl
theorem aHu:aW 182=some (.code aNb):=rfl
theorem ZD:aW 183=some (.code aNc):=rfl
theorem aHv:aW 184=some (.code aNd):=rfl
theorem aHw:aW 185=some (.code aNe):=rfl
theorem aHx:aW 186=some (.code aNf):=rfl
theorem aHy:aW 189=some (.code aNg):=rfl
theorem aHz:aW 190=some (.code aNh):=rfl
theorem aHA:aW 192=some (.code aNi):=rfl
theorem aHB:aW 194=some (.code aNj):=rfl
theorem ZE:aW 195=some (.code aNk):=rfl
theorem ZF:aW 196=some (.code aNl):=rfl
theorem aHC:aW 197=some (.code aNm):=rfl
theorem aHD:aW 198=some (.code aNn):=rfl
theorem aHE:aW 199=some (.code aNo):=rfl
theorem aHF:aW 200=some (.code aNp):=rfl
theorem aHG:aW 201=some (.code aNq):=rfl
theorem aHH:aW 202=some (.code aNr):=rfl
theorem aHI:aW 203=some (.code aNs):=rfl
theorem aHJ:aW 205=some (.code aNt):=rfl
theorem aHK:aW 206=some (.code aNu):=rfl
theorem aHL:aW 207=some (.code aNv):=rfl
theorem aHM:aW 208=some (.code aNw):=rfl
theorem aHN:aW 209=some (.code aNx):=rfl
theorem aHO:aW 210=some (.code aNy):=rfl
theorem aHP:aW 211=some (.code aNz):=rfl
theorem aHQ:aW 212=some (.code aNA):=rfl
theorem aHR:aW 213=some (.code aNB):=rfl
theorem aHS:aW 215=some (.code aNC):=rfl
theorem aHT:aW 216=some (.code aND):=rfl
theorem aHU:aW 217=some (.code aNE):=rfl
theorem aHV:aW 218=some (.code aNF):=rfl
theorem RF:aW 219=some (.code aA1):=rfl
theorem ZG:aW 220=some (.code aNG):=rfl
theorem aHW:aW 221=some (.code aNH):=rfl
theorem aHX:aW 222=some (.code aNI):=rfl
theorem aHY:aW 223=some (.code aNJ):=rfl
theorem aHZ:aW 224=some (.code aNK):=rfl
theorem aH0:aW 225=some (.code aNL):=rfl
theorem aH1:aW 226=some (.code aNM):=rfl
theorem aH2:aW 237=some (.code aNN):=rfl
theorem aH3:aW 238=some (.code aNO):=rfl
theorem aH4:aW 247=some (.code aNP):=rfl
theorem aH5:aW 248=some (.code aNQ):=rfl
theorem aH6:aW 249=some (.code aNR):=rfl
theorem aH7:aW 250=some (.code aNS):=rfl
theorem aH8:aW 251=some (.code aNT):=rfl
theorem aH9:aW 252=some (.code aNU):=rfl
theorem aIa:aW 253=some (.code aNV):=rfl
theorem aIb:aW 254=some (.code aNW):=rfl
theorem aIc:aW 255=some (.code aNX):=rfl
theorem aId:aW 257=some (.code aNY):=rfl
theorem aIe:aW 258=some (.code aF2):=rfl
theorem aIf:aW 259=some (.code aF4):=rfl
theorem aIg:aW 260=some (.code aNZ):=rfl
theorem aIh:aW 261=some (.code aN0):=rfl
theorem aIi:aW 262=some (.code aN1):=rfl
theorem aIj:aW 264=some (.code aN2):=rfl
theorem ZH:aW 265=some (.code aN3):=rfl
theorem aIk:aW 266=some (.code aN4):=rfl
theorem aIl:aW 267=some (.code aN5):=rfl
theorem ZI:aW 268=some (.code aCx):=rfl
theorem aIm:aW 269=some (.code aN6):=rfl
theorem aIn:aW 275=some (.prim false FL):=rfl
theorem RG:aW 279=some (.code aN7):=rfl
theorem aIo:aW 280=some (.code aN8):=rfl
theorem ZJ:aW 281=some (.code aN9):=rfl
theorem RH:aW 282=some (.code aOa):=rfl
theorem aIp:aW 283=some (.code aOb):=rfl
theorem aIq:aW 284=some (.code aOc):=rfl
theorem aIr:aW 285=some (.code aOd):=rfl
theorem aIs:aW 286=some (.code aGm):=rfl
theorem aIt:aW 287=some (.code aOe):=rfl
theorem aIu:aW 288=some (.code aOf):=rfl
theorem aIv:aW 289=some (.code aOg):=rfl
theorem aIw:aW 290=some (.prim false (gD 1)):=rfl
theorem aIx:aW 291=some (.code aOh):=rfl
end Go.Proofs.YtfejhjllooomlaaGreat
