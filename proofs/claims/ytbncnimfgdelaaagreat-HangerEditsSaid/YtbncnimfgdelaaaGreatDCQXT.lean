/- The table of the seat's functions. Printed by a program. -/
import Derived.Test.YtbncnimfgdelaaaGreatDCQX1
import Derived.Test.YtbncnimfgdelaaaGreatDCQIN
import Derived.Test.YtbncnimfgdelaaaGreatChecked
set_option maxRecDepth 100000
namespace Go.Proofs.YtbncnimfgdelaaaGreat
open Go.Vm
theorem nT:Go.Proofs.Tryz.prog.follows .mixedOrders=true:=Go.Proofs.Tryz.checked.mixed
theorem aNf:CJ Go.Proofs.Tryz.prog 88 (.shp (QK 3)):=aNe
theorem aNg:CJ Go.Proofs.Tryz.prog 89 (.prim false (gD 3)):=⟨rfl,pW nT (zero:=[.int .i64 0,.int .i64 0,.int .i64 0]) (by decide+kernel)⟩
theorem aF4:CJ Go.Proofs.Tryz.prog 193 (.prim false (gD 3)):=⟨rfl,pW nT (zero:=[.int .i64 0,.int .i64 0,.int .i64 0]) (by decide+kernel)⟩
theorem aF5:CJ Go.Proofs.Tryz.prog 194 (.prim false (gD 3)):=⟨rfl,pW nT (zero:=[.int .i64 0,.int .i64 0,.int .i64 0]) (by decide+kernel)⟩
theorem aF6:CJ Go.Proofs.Tryz.prog 195 (.prim false (gD 5)):=⟨rfl,pW nT (zero:=[.int .i64 0,.int .i64 0,.int .i64 0,.int .i64 0,.int .i64 0]) (by decide+kernel)⟩
theorem aF7:CJ Go.Proofs.Tryz.prog 196 (.prim false (gD 1)):=⟨rfl,pW nT (zero:=[.int .i64 0]) (by decide+kernel)⟩
theorem aF8:CJ Go.Proofs.Tryz.prog 197 (.prim false (gD 1)):=⟨rfl,pW nT (zero:=[.bool false]) (by decide+kernel)⟩
theorem aF9:CJ Go.Proofs.Tryz.prog 277 (.prim false FW):=⟨rfl,WK Go.Proofs.Tryz.func277 (by kernel_rfl) (by kernel_rfl) (by kernel_rfl) (by kernel_rfl)⟩
theorem aGa:CJ Go.Proofs.Tryz.prog 293 (.prim false (gD 1)):=⟨rfl,pW nT (zero:=[.int .i64 0]) (by decide+kernel)⟩
noncomputable def aPK:TT:= .node 143 (.node 75 (.node 41 (.node 25 (.node 19 (.node 11 (.node 10 (.leaf 6 (.code x6)) (.leaf 10 (.code x10))) (.node 12 (.leaf 11 (.code x11)) (.node 16 (.leaf 12 (.code x12)) (.leaf 16 (.code x16))))) (.node 22 (.node 20 (.leaf 19 (.code x19)) (.node 21 (.leaf 20 (.code x20)) (.leaf 21 (.code x21)))) (.node 23 (.leaf 22 (.code x22)) (.node 24 (.leaf 23 (.code x23)) (.leaf 24 (.code x24)))))) (.node 34 (.node 28 (.node 26 (.leaf 25 (.code x25)) (.leaf 26 (.code x26))) (.node 30 (.leaf 28 (.code x28)) (.node 32 (.leaf 30 (.code x30)) (.leaf 32 (.code x32))))) (.node 38 (.node 36 (.leaf 34 (.code x34)) (.node 37 (.leaf 36 (.code x36)) (.leaf 37 (.code x37)))) (.node 39 (.leaf 38 (.code x38)) (.node 40 (.leaf 39 (.code x39)) (.leaf 40 (.code x40))))))) (.node 62 (.node 53 (.node 43 (.node 42 (.leaf 41 (.code x41)) (.leaf 42 (.code x42))) (.node 45 (.leaf 43 (.code x43)) (.node 52 (.leaf 45 (.code x45)) (.leaf 52 (.code x52))))) (.node 58 (.node 54 (.leaf 53 (.code x53)) (.node 57 (.leaf 54 (.code x54)) (.leaf 57 (.code x57)))) (.node 59 (.leaf 58 (.code x58)) (.node 60 (.leaf 59 (.code x59)) (.leaf 60 (.code x60)))))) (.node 68 (.node 65 (.node 63 (.leaf 62 (.code x62)) (.node 64 (.leaf 63 (.code x63)) (.leaf 64 (.code x64)))) (.node 66 (.leaf 65 (.code x65)) (.node 67 (.leaf 66 (.code x66)) (.leaf 67 (.code x67))))) (.node 72 (.node 69 (.leaf 68 (.code x68)) (.node 70 (.leaf 69 (.code x69)) (.leaf 70 (.code x70)))) (.node 73 (.leaf 72 (.code x72)) (.node 74 (.leaf 73 (.code x73)) (.leaf 74 (.code x74)))))))) (.node 114 (.node 91 (.node 85 (.node 79 (.node 78 (.leaf 75 (.code x75)) (.leaf 78 (.code x78))) (.node 81 (.leaf 79 (.code x79)) (.node 83 (.leaf 81 (.code x81)) (.leaf 83 (.code x83))))) (.node 88 (.node 86 (.leaf 85 (.code x85)) (.node 87 (.leaf 86 (.code x86)) (.leaf 87 (.code x87)))) (.node 89 (.leaf 88 (.shp (QK 3))) (.node 90 (.leaf 89 (.prim false (gD 3))) (.leaf 90 (.code x90)))))) (.node 100 (.node 96 (.node 95 (.leaf 91 (.code x91)) (.leaf 95 (.code x95))) (.node 97 (.leaf 96 (.code x96)) (.node 99 (.leaf 97 (.code x97)) (.leaf 99 (.code x99))))) (.node 106 (.node 104 (.leaf 100 (.code aLv)) (.node 105 (.leaf 104 (.code aLw)) (.leaf 105 (.code aLx)))) (.node 110 (.leaf 106 (.code aLy)) (.node 111 (.leaf 110 (.code aLz)) (.leaf 111 (.code aLA))))))) (.node 125 (.node 119 (.node 116 (.node 115 (.leaf 114 (.code aLB)) (.leaf 115 (.code aLC))) (.node 117 (.leaf 116 (.code aLD)) (.node 118 (.leaf 117 (.code aLE)) (.leaf 118 (.code aLF))))) (.node 122 (.node 120 (.leaf 119 (.code aLG)) (.node 121 (.leaf 120 (.code aLH)) (.leaf 121 (.code aLI)))) (.node 123 (.leaf 122 (.code aLJ)) (.node 124 (.leaf 123 (.code aLK)) (.leaf 124 (.code aLL)))))) (.node 133 (.node 130 (.node 128 (.leaf 125 (.code aLM)) (.node 129 (.leaf 128 (.code aLN)) (.leaf 129 (.code aLO)))) (.node 131 (.leaf 130 (.code aLP)) (.node 132 (.leaf 131 (.code aLQ)) (.leaf 132 (.code aLR))))) (.node 136 (.node 134 (.leaf 133 (.code aLS)) (.node 135 (.leaf 134 (.code aLT)) (.leaf 135 (.code aLU)))) (.node 141 (.leaf 136 (.code aLV)) (.node 142 (.leaf 141 (.code aLW)) (.leaf 142 (.code aLX))))))))) (.node 214 (.node 185 (.node 168 (.node 158 (.node 151 (.node 144 (.leaf 143 (.code aLY)) (.leaf 144 (.code aLZ))) (.node 154 (.leaf 151 (.code aL0)) (.node 155 (.leaf 154 (.code aL1)) (.leaf 155 (.code aL2))))) (.node 165 (.node 163 (.leaf 158 (.code aL3)) (.node 164 (.leaf 163 (.code aL4)) (.leaf 164 (.code aL5)))) (.node 166 (.leaf 165 (.code aL6)) (.node 167 (.leaf 166 (.code aL7)) (.leaf 167 (.code aL8)))))) (.node 178 (.node 175 (.node 174 (.leaf 168 (.code aL9)) (.leaf 174 (.code aMa))) (.node 176 (.leaf 175 (.code aMb)) (.node 177 (.leaf 176 (.code aMc)) (.leaf 177 (.code aMd))))) (.node 181 (.node 179 (.leaf 178 (.code aMe)) (.node 180 (.leaf 179 (.code aMf)) (.leaf 180 (.code aMg)))) (.node 182 (.leaf 181 (.code aMh)) (.node 183 (.leaf 182 (.code aMi)) (.leaf 183 (.code aMj))))))) (.node 196 (.node 190 (.node 187 (.node 186 (.leaf 185 (.code aMk)) (.leaf 186 (.code aMl))) (.node 188 (.leaf 187 (.code aMm)) (.node 189 (.leaf 188 (.code aMn)) (.leaf 189 (.code aMo))))) (.node 193 (.node 191 (.leaf 190 (.code aMp)) (.node 192 (.leaf 191 (.code aMq)) (.leaf 192 (.code aMr)))) (.node 194 (.leaf 193 (.prim false (gD 3))) (.node 195 (.leaf 194 (.prim false (gD 3))) (.leaf 195 (.prim false (gD 5))))))) (.node 207 (.node 203 (.node 197 (.leaf 196 (.prim false (gD 1))) (.node 199 (.leaf 197 (.prim false (gD 1))) (.leaf 199 (.code aMs)))) (.node 204 (.leaf 203 (.code aMt)) (.node 205 (.leaf 204 (.code aMu)) (.leaf 205 (.code aMv))))) (.node 211 (.node 209 (.leaf 207 (.code aMw)) (.node 210 (.leaf 209 (.code aMx)) (.leaf 210 (.code aMy)))) (.node 212 (.leaf 211 (.code aMz)) (.node 213 (.leaf 212 (.code aMA)) (.leaf 213 (.code aMB)))))))) (.node 260 (.node 230 (.node 224 (.node 216 (.node 215 (.leaf 214 (.code aMC)) (.leaf 215 (.code aMD))) (.node 222 (.leaf 216 (.code aME)) (.node 223 (.leaf 222 (.code aFm)) (.leaf 223 (.code aFo))))) (.node 227 (.node 225 (.leaf 224 (.code aMF)) (.node 226 (.leaf 225 (.code aMG)) (.leaf 226 (.code aMH)))) (.node 228 (.leaf 227 (.code aMI)) (.node 229 (.leaf 228 (.code aMJ)) (.leaf 229 (.code aMK)))))) (.node 246 (.node 232 (.node 231 (.leaf 230 (.code aML)) (.leaf 231 (.code aMM))) (.node 233 (.leaf 232 (.code aMN)) (.node 245 (.leaf 233 (.code aMO)) (.leaf 245 (.code aMP))))) (.node 257 (.node 247 (.leaf 246 (.code aMQ)) (.node 256 (.leaf 247 (.code aMR)) (.leaf 256 (.code aMS)))) (.node 258 (.leaf 257 (.code aMT)) (.node 259 (.leaf 258 (.code aMU)) (.leaf 259 (.code aMV))))))) (.node 277 (.node 266 (.node 263 (.node 261 (.leaf 260 (.code aMW)) (.leaf 261 (.code aMX))) (.node 264 (.leaf 263 (.code aFJ)) (.node 265 (.leaf 264 (.code aMY)) (.leaf 265 (.code aMZ))))) (.node 269 (.node 267 (.leaf 266 (.code aM0)) (.node 268 (.leaf 267 (.code aM1)) (.leaf 268 (.code aM2)))) (.node 270 (.leaf 269 (.code aM3)) (.node 271 (.leaf 270 (.code aAW)) (.leaf 271 (.code aM4)))))) (.node 286 (.node 283 (.node 281 (.leaf 277 (.prim false FW)) (.node 282 (.leaf 281 (.code aM5)) (.leaf 282 (.code aM6)))) (.node 284 (.leaf 283 (.code aM7)) (.node 285 (.leaf 284 (.code aM8)) (.leaf 285 (.code aM9))))) (.node 291 (.node 287 (.leaf 286 (.code aCy)) (.node 288 (.leaf 287 (.code aNa)) (.leaf 288 (.code aNb)))) (.node 292 (.leaf 291 (.code aNc)) (.node 293 (.leaf 292 (.code aNd)) (.leaf 293 (.prim false (gD 1))))))))))
theorem ZF:aPK.All (CJ Go.Proofs.Tryz.prog):=⟨⟨⟨⟨⟨⟨⟨aPJ,aKz⟩,⟨aKA,⟨aKB,aKC⟩⟩⟩,⟨⟨aKD,⟨aKE,aKF⟩⟩,⟨aKG,⟨aKH,aKI⟩⟩⟩⟩,⟨⟨⟨aKJ,aKK⟩,⟨aKL,⟨aKM,aKN⟩⟩⟩,⟨⟨aKO,⟨aKP,aKQ⟩⟩,⟨aKR,⟨aKS,aKT⟩⟩⟩⟩⟩,⟨⟨⟨⟨aKU,aKV⟩,⟨aKW,⟨aKX,aKY⟩⟩⟩,⟨⟨aKZ,⟨aK0,aK1⟩⟩,⟨aK2,⟨aK3,aK4⟩⟩⟩⟩,⟨⟨⟨aK5,⟨aK6,aK7⟩⟩,⟨aK8,⟨aK9,aLa⟩⟩⟩,⟨⟨aLb,⟨aLc,aLd⟩⟩,⟨aLe,⟨aLf,aLg⟩⟩⟩⟩⟩⟩,⟨⟨⟨⟨⟨aLh,aLi⟩,⟨aLj,⟨aLk,aLl⟩⟩⟩,⟨⟨aLm,⟨aLn,aLo⟩⟩,⟨aNf,⟨aNg,aLp⟩⟩⟩⟩,⟨⟨⟨aLq,aLr⟩,⟨aLs,⟨aLt,aLu⟩⟩⟩,⟨⟨aEc,⟨aEd,aEe⟩⟩,⟨aEf,⟨aEg,aEh⟩⟩⟩⟩⟩,⟨⟨⟨⟨aEi,aEj⟩,⟨aEk,⟨aEl,aEm⟩⟩⟩,⟨⟨aEn,⟨aEo,aEp⟩⟩,⟨aEq,⟨aEr,aEs⟩⟩⟩⟩,⟨⟨⟨aEt,⟨aEu,aEv⟩⟩,⟨aEw,⟨aEx,aEy⟩⟩⟩,⟨⟨aEz,⟨aEA,aEB⟩⟩,⟨aEC,⟨aED,aEE⟩⟩⟩⟩⟩⟩⟩,⟨⟨⟨⟨⟨⟨aEF,aEG⟩,⟨aEH,⟨aEI,aEJ⟩⟩⟩,⟨⟨aEK,⟨aEL,aEM⟩⟩,⟨aEN,⟨aEO,aEP⟩⟩⟩⟩,⟨⟨⟨aEQ,aER⟩,⟨aES,⟨aET,aEU⟩⟩⟩,⟨⟨aEV,⟨aEW,aEX⟩⟩,⟨aEY,⟨aEZ,aE0⟩⟩⟩⟩⟩,⟨⟨⟨⟨aE1,aE2⟩,⟨aE3,⟨aE4,aE5⟩⟩⟩,⟨⟨aE6,⟨aE7,aE8⟩⟩,⟨aF4,⟨aF5,aF6⟩⟩⟩⟩,⟨⟨⟨aF7,⟨aF8,aE9⟩⟩,⟨aFa,⟨aFb,aFc⟩⟩⟩,⟨⟨aFd,⟨aFe,aFf⟩⟩,⟨aFg,⟨aFh,aFi⟩⟩⟩⟩⟩⟩,⟨⟨⟨⟨⟨aFj,aFk⟩,⟨aFl,⟨aFn,aFp⟩⟩⟩,⟨⟨aFq,⟨aFr,aFs⟩⟩,⟨aFt,⟨aFu,aFv⟩⟩⟩⟩,⟨⟨⟨aFw,aFx⟩,⟨aFy,⟨aFz,aFA⟩⟩⟩,⟨⟨aFB,⟨aFC,aFD⟩⟩,⟨aFE,⟨aFF,aFG⟩⟩⟩⟩⟩,⟨⟨⟨⟨aFH,aFI⟩,⟨aFK,⟨aFL,aFM⟩⟩⟩,⟨⟨aFN,⟨aFO,aFP⟩⟩,⟨aFQ,⟨aFR,aFS⟩⟩⟩⟩,⟨⟨⟨aF9,⟨aFT,aFU⟩⟩,⟨aFV,⟨aFW,aFX⟩⟩⟩,⟨⟨aFY,⟨aFZ,aF0⟩⟩,⟨aF1,⟨aF2,aGa⟩⟩⟩⟩⟩⟩⟩⟩
noncomputable def tab:pV:=aPK.get
theorem aJ6:tab 6=some (.code x6):=rfl
theorem aNh:tab 10=some (.code x10):=rfl
theorem aNi:tab 11=some (.code x11):=rfl
theorem aNj:tab 12=some (.code x12):=rfl
theorem aNk:tab 16=some (.code x16):=rfl
theorem aNl:tab 19=some (.code x19):=rfl
theorem aNm:tab 20=some (.code x20):=rfl
theorem aNn:tab 21=some (.code x21):=rfl
theorem aNo:tab 22=some (.code x22):=rfl
theorem aNp:tab 23=some (.code x23):=rfl
theorem aNq:tab 24=some (.code x24):=rfl
theorem aNr:tab 25=some (.code x25):=rfl
theorem aNs:tab 26=some (.code x26):=rfl
theorem aNt:tab 28=some (.code x28):=rfl
theorem aNu:tab 30=some (.code x30):=rfl
theorem aNv:tab 32=some (.code x32):=rfl
theorem aNw:tab 34=some (.code x34):=rfl
theorem aNx:tab 36=some (.code x36):=rfl
theorem aNy:tab 37=some (.code x37):=rfl
theorem aNz:tab 38=some (.code x38):=rfl
theorem aNA:tab 39=some (.code x39):=rfl
theorem aNB:tab 40=some (.code x40):=rfl
theorem aNC:tab 41=some (.code x41):=rfl
theorem aND:tab 42=some (.code x42):=rfl
theorem aNE:tab 43=some (.code x43):=rfl
theorem aNF:tab 45=some (.code x45):=rfl
theorem aNG:tab 52=some (.code x52):=rfl
theorem aNH:tab 53=some (.code x53):=rfl
theorem aNI:tab 54=some (.code x54):=rfl
theorem aNJ:tab 57=some (.code x57):=rfl
theorem aNK:tab 58=some (.code x58):=rfl
theorem aNL:tab 59=some (.code x59):=rfl
theorem aNM:tab 60=some (.code x60):=rfl
theorem aNN:tab 62=some (.code x62):=rfl
theorem aNO:tab 63=some (.code x63):=rfl
theorem aNP:tab 64=some (.code x64):=rfl
theorem aNQ:tab 65=some (.code x65):=rfl
theorem aNR:tab 66=some (.code x66):=rfl
theorem aNS:tab 67=some (.code x67):=rfl
theorem aNT:tab 68=some (.code x68):=rfl
theorem aNU:tab 69=some (.code x69):=rfl
theorem aNV:tab 70=some (.code x70):=rfl
theorem aNW:tab 72=some (.code x72):=rfl
theorem aNX:tab 73=some (.code x73):=rfl
theorem aNY:tab 74=some (.code x74):=rfl
theorem aNZ:tab 75=some (.code x75):=rfl
theorem XG:tab 78=some (.code x78):=rfl
theorem aN0:tab 79=some (.code x79):=rfl
theorem aN1:tab 81=some (.code x81):=rfl
theorem aN2:tab 83=some (.code x83):=rfl
theorem aN3:tab 85=some (.code x85):=rfl
theorem aN4:tab 86=some (.code x86):=rfl
theorem aN5:tab 87=some (.code x87):=rfl
theorem aN6:tab 88=some (.shp (QK 3)):=rfl
theorem aN7:tab 89=some (.prim false (gD 3)):=rfl
theorem aN8:tab 90=some (.code x90):=rfl
theorem aN9:tab 91=some (.code x91):=rfl
theorem aOa:tab 95=some (.code x95):=rfl
theorem aOb:tab 96=some (.code x96):=rfl
theorem aOc:tab 97=some (.code x97):=rfl
theorem aOd:tab 99=some (.code x99):=rfl
theorem aGb:tab 100=some (.code aLv):=rfl
theorem aGc:tab 104=some (.code aLw):=rfl
theorem aGd:tab 105=some (.code aLx):=rfl
theorem aGe:tab 106=some (.code aLy):=rfl
theorem ZG:tab 110=some (.code aLz):=rfl
theorem aGf:tab 111=some (.code aLA):=rfl
theorem aGg:tab 114=some (.code aLB):=rfl
theorem aGh:tab 115=some (.code aLC):=rfl
theorem aGi:tab 116=some (.code aLD):=rfl
theorem aGj:tab 117=some (.code aLE):=rfl
theorem aGk:tab 118=some (.code aLF):=rfl
theorem aGl:tab 119=some (.code aLG):=rfl
theorem aGm:tab 120=some (.code aLH):=rfl
theorem aGn:tab 121=some (.code aLI):=rfl
theorem aGo:tab 122=some (.code aLJ):=rfl
theorem aGp:tab 123=some (.code aLK):=rfl
theorem aGq:tab 124=some (.code aLL):=rfl
theorem aGr:tab 125=some (.code aLM):=rfl
theorem aGs:tab 128=some (.code aLN):=rfl
theorem aGt:tab 129=some (.code aLO):=rfl
theorem aGu:tab 130=some (.code aLP):=rfl
theorem aGv:tab 131=some (.code aLQ):=rfl
theorem aGw:tab 132=some (.code aLR):=rfl
theorem aGx:tab 133=some (.code aLS):=rfl
theorem aGy:tab 134=some (.code aLT):=rfl
theorem aGz:tab 135=some (.code aLU):=rfl
theorem ZH:tab 136=some (.code aLV):=rfl
theorem aGA:tab 141=some (.code aLW):=rfl
theorem ZI:tab 142=some (.code aLX):=rfl
theorem aGB:tab 143=some (.code aLY):=rfl
theorem aGC:tab 144=some (.code aLZ):=rfl
theorem aGD:tab 151=some (.code aL0):=rfl
theorem aGE:tab 154=some (.code aL1):=rfl
theorem aGF:tab 155=some (.code aL2):=rfl
theorem aGG:tab 158=some (.code aL3):=rfl
theorem aGH:tab 163=some (.code aL4):=rfl
theorem aGI:tab 164=some (.code aL5):=rfl
theorem ZJ:tab 165=some (.code aL6):=rfl
theorem aGJ:tab 166=some (.code aL7):=rfl
theorem aGK:tab 167=some (.code aL8):=rfl
theorem ZK:tab 168=some (.code aL9):=rfl
theorem aGL:tab 174=some (.code aMa):=rfl
theorem aGM:tab 175=some (.code aMb):=rfl
theorem aGN:tab 176=some (.code aMc):=rfl
theorem aGO:tab 177=some (.code aMd):=rfl
theorem aGP:tab 178=some (.code aMe):=rfl
theorem aGQ:tab 179=some (.code aMf):=rfl
theorem aGR:tab 180=some (.code aMg):=rfl
theorem aGS:tab 181=some (.code aMh):=rfl
theorem aGT:tab 182=some (.code aMi):=rfl
theorem aGU:tab 183=some (.code aMj):=rfl
theorem aGV:tab 185=some (.code aMk):=rfl
theorem aGW:tab 186=some (.code aMl):=rfl
theorem aGX:tab 187=some (.code aMm):=rfl
theorem aGY:tab 188=some (.code aMn):=rfl
theorem aGZ:tab 189=some (.code aMo):=rfl
theorem aG0:tab 190=some (.code aMp):=rfl
theorem aG1:tab 191=some (.code aMq):=rfl
theorem aG2:tab 192=some (.code aMr):=rfl
theorem aG3:tab 193=some (.prim false (gD 3)):=rfl
theorem aG4:tab 194=some (.prim false (gD 3)):=rfl
theorem aG5:tab 195=some (.prim false (gD 5)):=rfl
theorem aG6:tab 196=some (.prim false (gD 1)):=rfl
theorem aG7:tab 197=some (.prim false (gD 1)):=rfl
theorem aG8:tab 199=some (.code aMs):=rfl
theorem aG9:tab 203=some (.code aMt):=rfl
theorem aHa:tab 204=some (.code aMu):=rfl
theorem aHb:tab 205=some (.code aMv):=rfl
theorem aHc:tab 207=some (.code aMw):=rfl
theorem aHd:tab 209=some (.code aMx):=rfl
theorem aHe:tab 210=some (.code aMy):=rfl
theorem aHf:tab 211=some (.code aMz):=rfl
theorem aHg:tab 212=some (.code aMA):=rfl
theorem aHh:tab 213=some (.code aMB):=rfl
theorem ZL:tab 214=some (.code aMC):=rfl
theorem aHi:tab 215=some (.code aMD):=rfl
theorem aHj:tab 216=some (.code aME):=rfl
theorem aHk:tab 222=some (.code aFm):=rfl
theorem aHl:tab 223=some (.code aFo):=rfl
theorem aHm:tab 224=some (.code aMF):=rfl
theorem aHn:tab 225=some (.code aMG):=rfl
theorem aHo:tab 226=some (.code aMH):=rfl
theorem aHp:tab 227=some (.code aMI):=rfl
theorem aHq:tab 228=some (.code aMJ):=rfl
theorem aHr:tab 229=some (.code aMK):=rfl
theorem aHs:tab 230=some (.code aML):=rfl
theorem aHt:tab 231=some (.code aMM):=rfl
theorem aHu:tab 232=some (.code aMN):=rfl
theorem aHv:tab 233=some (.code aMO):=rfl
theorem aHw:tab 245=some (.code aMP):=rfl
theorem aHx:tab 246=some (.code aMQ):=rfl
theorem aHy:tab 247=some (.code aMR):=rfl
theorem aHz:tab 256=some (.code aMS):=rfl
theorem aHA:tab 257=some (.code aMT):=rfl
theorem aHB:tab 258=some (.code aMU):=rfl
theorem ZM:tab 259=some (.code aMV):=rfl
theorem aHC:tab 260=some (.code aMW):=rfl
theorem aHD:tab 261=some (.code aMX):=rfl
theorem aHE:tab 263=some (.code aFJ):=rfl
theorem aHF:tab 264=some (.code aMY):=rfl
theorem aHG:tab 265=some (.code aMZ):=rfl
theorem aHH:tab 266=some (.code aM0):=rfl
theorem aHI:tab 267=some (.code aM1):=rfl
theorem aHJ:tab 268=some (.code aM2):=rfl
theorem aHK:tab 269=some (.code aM3):=rfl
theorem RF:tab 270=some (.code aAW):=rfl
theorem ZN:tab 271=some (.code aM4):=rfl
theorem aHL:tab 277=some (.prim false FW):=rfl
theorem aHM:tab 281=some (.code aM5):=rfl
theorem aHN:tab 282=some (.code aM6):=rfl
theorem aHO:tab 283=some (.code aM7):=rfl
theorem aHP:tab 284=some (.code aM8):=rfl
theorem aHQ:tab 285=some (.code aM9):=rfl
theorem ZO:tab 286=some (.code aCy):=rfl
theorem aHR:tab 287=some (.code aNa):=rfl
theorem ZP:tab 288=some (.code aNb):=rfl
theorem aHS:tab 291=some (.code aNc):=rfl
theorem aHT:tab 292=some (.code aNd):=rfl
theorem aHU:tab 293=some (.prim false (gD 1)):=rfl
end Go.Proofs.YtbncnimfgdelaaaGreat
