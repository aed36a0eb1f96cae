/- The table of the seat's functions. Printed by a program. -/
import Derived.Test.YtfejhjllooomlaaGreatBQX1
import Derived.Test.YtfejhjllooomlaaGreatBQIN
import Derived.Test.YtfejhjllooomlaaGreatChecked
set_option maxRecDepth 100000
namespace Go.Proofs.YtfejhjllooomlaaGreat
open Go.Vm
theorem nI:Go.Proofs.Tryz.prog.follows .mixedOrders=true:=Go.Proofs.Tryz.checked.mixed
theorem aM0:BU Go.Proofs.Tryz.prog 64 (.prim false (fY 1)):=⟨rfl,pF nI (zero:=[.int .i64 0]) (by decide+kernel)⟩
theorem aM1:BU Go.Proofs.Tryz.prog 90 (.shp (O4 3)):=aMZ
theorem aM2:BU Go.Proofs.Tryz.prog 91 (.prim false (fY 3)):=⟨rfl,pF nI (zero:=[.int .i64 0,.int .i64 0,.int .i64 0]) (by decide+kernel)⟩
theorem aFx:BU Go.Proofs.Tryz.prog 170 (.prim false (fY 3)):=⟨rfl,pF nI (zero:=[.int .i64 0,.int .i64 0,.int .i64 0]) (by decide+kernel)⟩
theorem aFy:BU Go.Proofs.Tryz.prog 171 (.prim false (fY 3)):=⟨rfl,pF nI (zero:=[.int .i64 0,.int .i64 0,.int .i64 0]) (by decide+kernel)⟩
theorem aFz:BU Go.Proofs.Tryz.prog 172 (.prim false (fY 5)):=⟨rfl,pF nI (zero:=[.int .i64 0,.int .i64 0,.int .i64 0,.int .i64 0,.int .i64 0]) (by decide+kernel)⟩
theorem aFA:BU Go.Proofs.Tryz.prog 173 (.prim false (fY 1)):=⟨rfl,pF nI (zero:=[.bool false]) (by decide+kernel)⟩
theorem aFB:BU Go.Proofs.Tryz.prog 275 (.prim false E0):=⟨rfl,UV Go.Proofs.Tryz.func275 (by kernel_rfl) (by kernel_rfl) (by kernel_rfl) (by kernel_rfl)⟩
theorem aFC:BU Go.Proofs.Tryz.prog 290 (.prim false (fY 1)):=⟨rfl,pF nI (zero:=[.int .i64 0]) (by decide+kernel)⟩
noncomputable def aPs:TT:= .node 149 (.node 86 (.node 53 (.node 32 (.node 21 (.node 15 (.node 11 (.leaf 6 (.code x6)) (.node 13 (.leaf 11 (.code x11)) (.leaf 13 (.code x13)))) (.node 17 (.leaf 15 (.code x15)) (.node 19 (.leaf 17 (.code x17)) (.leaf 19 (.code x19))))) (.node 29 (.node 22 (.leaf 21 (.code x21)) (.node 26 (.leaf 22 (.code x22)) (.leaf 26 (.code x26)))) (.node 30 (.leaf 29 (.code x29)) (.node 31 (.leaf 30 (.code x30)) (.leaf 31 (.code x31)))))) (.node 43 (.node 35 (.node 33 (.leaf 32 (.code x32)) (.node 34 (.leaf 33 (.code x33)) (.leaf 34 (.code x34)))) (.node 40 (.leaf 35 (.code x35)) (.node 41 (.leaf 40 (.code x40)) (.leaf 41 (.code x41))))) (.node 48 (.node 44 (.leaf 43 (.code x43)) (.node 45 (.leaf 44 (.code x44)) (.leaf 45 (.code x45)))) (.node 51 (.leaf 48 (.code x48)) (.node 52 (.leaf 51 (.code x51)) (.leaf 52 (.code x52))))))) (.node 69 (.node 59 (.node 56 (.node 54 (.leaf 53 (.code x53)) (.node 55 (.leaf 54 (.code x54)) (.leaf 55 (.code x55)))) (.node 57 (.leaf 56 (.code x56)) (.node 58 (.leaf 57 (.code x57)) (.leaf 58 (.code x58))))) (.node 64 (.node 60 (.leaf 59 (.code x59)) (.node 61 (.leaf 60 (.code x60)) (.leaf 61 (.code x61)))) (.node 65 (.leaf 64 (.prim false (fY 1))) (.node 68 (.leaf 65 (.code x65)) (.leaf 68 (.code x68)))))) (.node 79 (.node 73 (.node 70 (.leaf 69 (.code x69)) (.node 72 (.leaf 70 (.code x70)) (.leaf 72 (.code x72)))) (.node 77 (.leaf 73 (.code x73)) (.node 78 (.leaf 77 (.code x77)) (.leaf 78 (.code x78))))) (.node 82 (.node 80 (.leaf 79 (.code x79)) (.node 81 (.leaf 80 (.code x80)) (.leaf 81 (.code x81)))) (.node 83 (.leaf 82 (.code x82)) (.node 84 (.leaf 83 (.code x83)) (.leaf 84 (.code x84)))))))) (.node 111 (.node 99 (.node 92 (.node 89 (.node 87 (.leaf 86 (.code x86)) (.node 88 (.leaf 87 (.code x87)) (.leaf 88 (.code x88)))) (.node 90 (.leaf 89 (.code x89)) (.node 91 (.leaf 90 (.shp (O4 3))) (.leaf 91 (.prim false (fY 3)))))) (.node 96 (.node 94 (.leaf 92 (.code x92)) (.node 95 (.leaf 94 (.code x94)) (.leaf 95 (.code x95)))) (.node 97 (.leaf 96 (.code x96)) (.node 98 (.leaf 97 (.code x97)) (.leaf 98 (.code x98)))))) (.node 105 (.node 102 (.node 100 (.leaf 99 (.code x99)) (.node 101 (.leaf 100 (.code aK3)) (.leaf 101 (.code aK4)))) (.node 103 (.leaf 102 (.code aK5)) (.node 104 (.leaf 103 (.code aK6)) (.leaf 104 (.code aK7))))) (.node 108 (.node 106 (.leaf 105 (.code aK8)) (.node 107 (.leaf 106 (.code aK9)) (.leaf 107 (.code aLa)))) (.node 109 (.leaf 108 (.code aLb)) (.node 110 (.leaf 109 (.code aLc)) (.leaf 110 (.code aLd))))))) (.node 128 (.node 120 (.node 116 (.node 112 (.leaf 111 (.code aLe)) (.node 115 (.leaf 112 (.code aLf)) (.leaf 115 (.code aLg)))) (.node 117 (.leaf 116 (.code aLh)) (.node 119 (.leaf 117 (.code aLi)) (.leaf 119 (.code aLj))))) (.node 123 (.node 121 (.leaf 120 (.code aLk)) (.node 122 (.leaf 121 (.code aLl)) (.leaf 122 (.code aLm)))) (.node 124 (.leaf 123 (.code aLn)) (.node 125 (.leaf 124 (.code aLo)) (.leaf 125 (.code aLp)))))) (.node 140 (.node 137 (.node 131 (.leaf 128 (.code aLq)) (.node 136 (.leaf 131 (.code aLr)) (.leaf 136 (.code aLs)))) (.node 138 (.leaf 137 (.code aLt)) (.node 139 (.leaf 138 (.code aBB)) (.leaf 139 (.code aLu))))) (.node 143 (.node 141 (.leaf 140 (.code aBC)) (.node 142 (.leaf 141 (.code aBD)) (.leaf 142 (.code aLv)))) (.node 145 (.node 144 (.leaf 143 (.code aLw)) (.leaf 144 (.code aLx))) (.node 148 (.leaf 145 (.code aLy)) (.leaf 148 (.code aLz))))))))) (.node 211 (.node 178 (.node 163 (.node 157 (.node 154 (.node 150 (.leaf 149 (.code aLA)) (.node 151 (.leaf 150 (.code aLB)) (.leaf 151 (.code aLC)))) (.node 155 (.leaf 154 (.code aLD)) (.node 156 (.leaf 155 (.code aLE)) (.leaf 156 (.code aLF))))) (.node 160 (.node 158 (.leaf 157 (.code aLG)) (.node 159 (.leaf 158 (.code aLH)) (.leaf 159 (.code aLI)))) (.node 161 (.leaf 160 (.code aLJ)) (.node 162 (.leaf 161 (.code aLK)) (.leaf 162 (.code aLL)))))) (.node 170 (.node 166 (.node 164 (.leaf 163 (.code aLM)) (.node 165 (.leaf 164 (.code aLN)) (.leaf 165 (.code aLO)))) (.node 167 (.leaf 166 (.code aLP)) (.node 168 (.leaf 167 (.code aLQ)) (.leaf 168 (.code aLR))))) (.node 173 (.node 171 (.leaf 170 (.prim false (fY 3))) (.node 172 (.leaf 171 (.prim false (fY 3))) (.leaf 172 (.prim false (fY 5))))) (.node 174 (.leaf 173 (.prim false (fY 1))) (.node 175 (.leaf 174 (.code aLS)) (.leaf 175 (.code aLT))))))) (.node 194 (.node 184 (.node 181 (.node 179 (.leaf 178 (.code aLU)) (.node 180 (.leaf 179 (.code aLV)) (.leaf 180 (.code aLW)))) (.node 182 (.leaf 181 (.code aLX)) (.node 183 (.leaf 182 (.code aLY)) (.leaf 183 (.code aLZ))))) (.node 189 (.node 185 (.leaf 184 (.code aL0)) (.node 186 (.leaf 185 (.code aL1)) (.leaf 186 (.code aL2)))) (.node 190 (.leaf 189 (.code aL3)) (.node 192 (.leaf 190 (.code aL4)) (.leaf 192 (.code aL5)))))) (.node 203 (.node 197 (.node 195 (.leaf 194 (.code aL6)) (.node 196 (.leaf 195 (.code aL7)) (.leaf 196 (.code aL8)))) (.node 198 (.leaf 197 (.code aL9)) (.node 199 (.leaf 198 (.code aMa)) (.leaf 199 (.code aMb))))) (.node 207 (.node 205 (.leaf 203 (.code aMc)) (.node 206 (.leaf 205 (.code aMd)) (.leaf 206 (.code aMe)))) (.node 209 (.node 208 (.leaf 207 (.code aMf)) (.leaf 208 (.code aMg))) (.node 210 (.leaf 209 (.code aMh)) (.leaf 210 (.code aMi)))))))) (.node 257 (.node 224 (.node 218 (.node 215 (.node 212 (.leaf 211 (.code aMj)) (.node 213 (.leaf 212 (.code aMk)) (.leaf 213 (.code aMl)))) (.node 216 (.leaf 215 (.code aMm)) (.node 217 (.leaf 216 (.code aMn)) (.leaf 217 (.code aMo))))) (.node 221 (.node 219 (.leaf 218 (.code aMp)) (.node 220 (.leaf 219 (.code aAa)) (.leaf 220 (.code aMq)))) (.node 222 (.leaf 221 (.code aMr)) (.node 223 (.leaf 222 (.code aMs)) (.leaf 223 (.code aMt)))))) (.node 248 (.node 237 (.node 225 (.leaf 224 (.code aMu)) (.node 226 (.leaf 225 (.code aMv)) (.leaf 226 (.code aMw)))) (.node 238 (.leaf 237 (.code aMx)) (.node 247 (.leaf 238 (.code aMy)) (.leaf 247 (.code aMz))))) (.node 251 (.node 249 (.leaf 248 (.code aMA)) (.node 250 (.leaf 249 (.code aMB)) (.leaf 250 (.code aMC)))) (.node 252 (.leaf 251 (.code aMD)) (.node 253 (.leaf 252 (.code aME)) (.leaf 253 (.code aMF))))))) (.node 275 (.node 264 (.node 260 (.node 258 (.leaf 257 (.code aMG)) (.node 259 (.leaf 258 (.code aE7)) (.leaf 259 (.code aE9)))) (.node 261 (.leaf 260 (.code aMH)) (.node 262 (.leaf 261 (.code aMI)) (.leaf 262 (.code aMJ))))) (.node 267 (.node 265 (.leaf 264 (.code aMK)) (.node 266 (.leaf 265 (.code aML)) (.leaf 266 (.code aMM)))) (.node 268 (.leaf 267 (.code aMN)) (.node 269 (.leaf 268 (.code aBE)) (.leaf 269 (.code aMO)))))) (.node 285 (.node 281 (.node 279 (.leaf 275 (.prim false E0)) (.node 280 (.leaf 279 (.code aMP)) (.leaf 280 (.code aMQ)))) (.node 282 (.leaf 281 (.code aMR)) (.node 283 (.leaf 282 (.code aMS)) (.leaf 283 (.code aMT))))) (.node 288 (.node 286 (.leaf 285 (.code aMU)) (.node 287 (.leaf 286 (.code aFq)) (.leaf 287 (.code aMV)))) (.node 290 (.node 289 (.leaf 288 (.code aMW)) (.leaf 289 (.code aMX))) (.node 291 (.leaf 290 (.prim false (fY 1))) (.leaf 291 (.code aMY)))))))))
theorem XQ:aPs.All (BU Go.Proofs.Tryz.prog):=⟨⟨⟨⟨⟨⟨⟨aPq,⟨aJ8,aJ9⟩⟩,⟨aKa,⟨aKb,aKc⟩⟩⟩,⟨⟨aKd,⟨aKe,aKf⟩⟩,⟨aKg,⟨aKh,aKi⟩⟩⟩⟩,⟨⟨⟨aKj,⟨aKk,aKl⟩⟩,⟨aKm,⟨aKn,aKo⟩⟩⟩,⟨⟨aKp,⟨aKq,aKr⟩⟩,⟨aKs,⟨aKt,aKu⟩⟩⟩⟩⟩,⟨⟨⟨⟨aKv,⟨aKw,aKx⟩⟩,⟨aKy,⟨aKz,aKA⟩⟩⟩,⟨⟨aKB,⟨aKC,aKD⟩⟩,⟨aM0,⟨aKE,aKF⟩⟩⟩⟩,⟨⟨⟨aKG,⟨aKH,aKI⟩⟩,⟨aKJ,⟨aKK,aKL⟩⟩⟩,⟨⟨aKM,⟨aKN,aKO⟩⟩,⟨aKP,⟨aKQ,aKR⟩⟩⟩⟩⟩⟩,⟨⟨⟨⟨⟨aKS,⟨aKT,aKU⟩⟩,⟨aKV,⟨aM1,aM2⟩⟩⟩,⟨⟨aKW,⟨aKX,aKY⟩⟩,⟨aKZ,⟨aK0,aK1⟩⟩⟩⟩,⟨⟨⟨aK2,⟨aDp,aDq⟩⟩,⟨aDr,⟨aDs,aDt⟩⟩⟩,⟨⟨aDu,⟨aDv,aDw⟩⟩,⟨aDx,⟨aDy,aDz⟩⟩⟩⟩⟩,⟨⟨⟨⟨aDA,⟨aDB,aDC⟩⟩,⟨aDD,⟨aDE,aDF⟩⟩⟩,⟨⟨aDG,⟨aDH,aDI⟩⟩,⟨aDJ,⟨aDK,aDL⟩⟩⟩⟩,⟨⟨⟨aDM,⟨aDN,aDO⟩⟩,⟨aDP,⟨aDQ,aDR⟩⟩⟩,⟨⟨aDS,⟨aDT,aDU⟩⟩,⟨⟨aDV,aDW⟩,⟨aDX,aDY⟩⟩⟩⟩⟩⟩⟩,⟨⟨⟨⟨⟨⟨aDZ,⟨aD0,aD1⟩⟩,⟨aD2,⟨aD3,aD4⟩⟩⟩,⟨⟨aD5,⟨aD6,aD7⟩⟩,⟨aD8,⟨aD9,aEa⟩⟩⟩⟩,⟨⟨⟨aEb,⟨aEc,aEd⟩⟩,⟨aEe,⟨aEf,aEg⟩⟩⟩,⟨⟨aFx,⟨aFy,aFz⟩⟩,⟨aFA,⟨aEh,aEi⟩⟩⟩⟩⟩,⟨⟨⟨⟨aEj,⟨aEk,aEl⟩⟩,⟨aEm,⟨aEn,aEo⟩⟩⟩,⟨⟨aEp,⟨aEq,aEr⟩⟩,⟨aEs,⟨aEt,aEu⟩⟩⟩⟩,⟨⟨⟨aEv,⟨aEw,aEx⟩⟩,⟨aEy,⟨aEz,aEA⟩⟩⟩,⟨⟨aEB,⟨aEC,aED⟩⟩,⟨⟨aEE,aEF⟩,⟨aEG,aEH⟩⟩⟩⟩⟩⟩,⟨⟨⟨⟨⟨aEI,⟨aEJ,aEK⟩⟩,⟨aEL,⟨aEM,aEN⟩⟩⟩,⟨⟨aEO,⟨aEP,aEQ⟩⟩,⟨aER,⟨aES,aET⟩⟩⟩⟩,⟨⟨⟨aEU,⟨aEV,aEW⟩⟩,⟨aEX,⟨aEY,aEZ⟩⟩⟩,⟨⟨aE0,⟨aE1,aE2⟩⟩,⟨aE3,⟨aE4,aE5⟩⟩⟩⟩⟩,⟨⟨⟨⟨aE6,⟨aE8,aFa⟩⟩,⟨aFb,⟨aFc,aFd⟩⟩⟩,⟨⟨aFe,⟨aFf,aFg⟩⟩,⟨aFh,⟨aFi,aFj⟩⟩⟩⟩,⟨⟨⟨aFB,⟨aFk,aFl⟩⟩,⟨aFm,⟨aFn,aFo⟩⟩⟩,⟨⟨aFp,⟨aFr,aFs⟩⟩,⟨⟨aFt,aFu⟩,⟨aFC,aFv⟩⟩⟩⟩⟩⟩⟩⟩
noncomputable def tab:pE:=aPs.get
theorem aJK:tab 6=some (.code x6):=rfl
theorem aM3:tab 11=some (.code x11):=rfl
theorem aM4:tab 13=some (.code x13):=rfl
theorem aM5:tab 15=some (.code x15):=rfl
theorem aM6:tab 17=some (.code x17):=rfl
theorem aM7:tab 19=some (.code x19):=rfl
theorem aM8:tab 21=some (.code x21):=rfl
theorem aM9:tab 22=some (.code x22):=rfl
theorem aNa:tab 26=some (.code x26):=rfl
theorem aNb:tab 29=some (.code x29):=rfl
theorem aNc:tab 30=some (.code x30):=rfl
theorem aBH:tab 31=some (.code x31):=rfl
theorem aNd:tab 32=some (.code x32):=rfl
theorem aNe:tab 33=some (.code x33):=rfl
theorem aNf:tab 34=some (.code x34):=rfl
theorem aNg:tab 35=some (.code x35):=rfl
theorem aNh:tab 40=some (.code x40):=rfl
theorem aNi:tab 41=some (.code x41):=rfl
theorem aNj:tab 43=some (.code x43):=rfl
theorem aNk:tab 44=some (.code x44):=rfl
theorem aNl:tab 45=some (.code x45):=rfl
theorem aNm:tab 48=some (.code x48):=rfl
theorem aNn:tab 51=some (.code x51):=rfl
theorem aNo:tab 52=some (.code x52):=rfl
theorem aNp:tab 53=some (.code x53):=rfl
theorem aNq:tab 54=some (.code x54):=rfl
theorem aBI:tab 55=some (.code x55):=rfl
theorem aNr:tab 56=some (.code x56):=rfl
theorem aNs:tab 57=some (.code x57):=rfl
theorem aNt:tab 58=some (.code x58):=rfl
theorem aNu:tab 59=some (.code x59):=rfl
theorem aNv:tab 60=some (.code x60):=rfl
theorem aNw:tab 61=some (.code x61):=rfl
theorem aNx:tab 64=some (.prim false (fY 1)):=rfl
theorem aNy:tab 65=some (.code x65):=rfl
theorem aNz:tab 68=some (.code x68):=rfl
theorem aNA:tab 69=some (.code x69):=rfl
theorem aNB:tab 70=some (.code x70):=rfl
theorem aNC:tab 72=some (.code x72):=rfl
theorem aND:tab 73=some (.code x73):=rfl
theorem aBJ:tab 77=some (.code x77):=rfl
theorem aBK:tab 78=some (.code x78):=rfl
theorem aNE:tab 79=some (.code x79):=rfl
theorem aNF:tab 80=some (.code x80):=rfl
theorem aNG:tab 81=some (.code x81):=rfl
theorem aBL:tab 82=some (.code x82):=rfl
theorem aNH:tab 83=some (.code x83):=rfl
theorem aNI:tab 84=some (.code x84):=rfl
theorem aBM:tab 86=some (.code x86):=rfl
theorem aNJ:tab 87=some (.code x87):=rfl
theorem aNK:tab 88=some (.code x88):=rfl
theorem aNL:tab 89=some (.code x89):=rfl
theorem aNM:tab 90=some (.shp (O4 3)):=rfl
theorem aNN:tab 91=some (.prim false (fY 3)):=rfl
theorem aNO:tab 92=some (.code x92):=rfl
theorem aNP:tab 94=some (.code x94):=rfl
theorem aNQ:tab 95=some (.code x95):=rfl
theorem aNR:tab 96=some (.code x96):=rfl
theorem aNS:tab 97=some (.code x97):=rfl
theorem aNT:tab 98=some (.code x98):=rfl
theorem aNU:tab 99=some (.code x99):=rfl
theorem aFD:tab 100=some (.code aK3):=rfl
theorem aFE:tab 101=some (.code aK4):=rfl
theorem aFF:tab 102=some (.code aK5):=rfl
theorem aFG:tab 103=some (.code aK6):=rfl
theorem aFH:tab 104=some (.code aK7):=rfl
theorem aFI:tab 105=some (.code aK8):=rfl
theorem aFJ:tab 106=some (.code aK9):=rfl
theorem aFK:tab 107=some (.code aLa):=rfl
theorem aFL:tab 108=some (.code aLb):=rfl
theorem aFM:tab 109=some (.code aLc):=rfl
theorem aFN:tab 110=some (.code aLd):=rfl
theorem aFO:tab 111=some (.code aLe):=rfl
theorem aFP:tab 112=some (.code aLf):=rfl
theorem XS:tab 115=some (.code aLg):=rfl
theorem aFQ:tab 116=some (.code aLh):=rfl
theorem aFR:tab 117=some (.code aLi):=rfl
theorem aFS:tab 119=some (.code aLj):=rfl
theorem aFT:tab 120=some (.code aLk):=rfl
theorem aFU:tab 121=some (.code aLl):=rfl
theorem XT:tab 122=some (.code aLm):=rfl
theorem aFV:tab 123=some (.code aLn):=rfl
theorem aFW:tab 124=some (.code aLo):=rfl
theorem aFX:tab 125=some (.code aLp):=rfl
theorem aFY:tab 128=some (.code aLq):=rfl
theorem aFZ:tab 131=some (.code aLr):=rfl
theorem XU:tab 136=some (.code aLs):=rfl
theorem XV:tab 137=some (.code aLt):=rfl
theorem XW:tab 138=some (.code aBB):=rfl
theorem aF0:tab 139=some (.code aLu):=rfl
theorem XX:tab 140=some (.code aBC):=rfl
theorem XY:tab 141=some (.code aBD):=rfl
theorem aF1:tab 142=some (.code aLv):=rfl
theorem aF2:tab 143=some (.code aLw):=rfl
theorem aF3:tab 144=some (.code aLx):=rfl
theorem aF4:tab 145=some (.code aLy):=rfl
theorem aF5:tab 148=some (.code aLz):=rfl
theorem XZ:tab 149=some (.code aLA):=rfl
theorem aF6:tab 150=some (.code aLB):=rfl
theorem aF7:tab 151=some (.code aLC):=rfl
theorem aF8:tab 154=some (.code aLD):=rfl
theorem aF9:tab 155=some (.code aLE):=rfl
theorem aGa:tab 156=some (.code aLF):=rfl
theorem aGb:tab 157=some (.code aLG):=rfl
theorem aGc:tab 158=some (.code aLH):=rfl
theorem aGd:tab 159=some (.code aLI):=rfl
theorem aGe:tab 160=some (.code aLJ):=rfl
theorem aGf:tab 161=some (.code aLK):=rfl
theorem aGg:tab 162=some (.code aLL):=rfl
theorem aGh:tab 163=some (.code aLM):=rfl
theorem aGi:tab 164=some (.code aLN):=rfl
theorem aGj:tab 165=some (.code aLO):=rfl
theorem aGk:tab 166=some (.code aLP):=rfl
theorem aGl:tab 167=some (.code aLQ):=rfl
theorem aGm:tab 168=some (.code aLR):=rfl
theorem aGn:tab 170=some (.prim false (fY 3)):=rfl
theorem aGo:tab 171=some (.prim false (fY 3)):=rfl
theorem aGp:tab 172=some (.prim false (fY 5)):=rfl
theorem aGq:tab 173=some (.prim false (fY 1)):=rfl
theorem aGr:tab 174=some (.code aLS):=rfl
theorem aGs:tab 175=some (.code aLT):=rfl
theorem aGt:tab 178=some (.code aLU):=rfl
theorem aGu:tab 179=some (.code aLV):=rfl
theorem aGv:tab 180=some (.code aLW):=rfl
theorem aGw:tab 181=some (.code aLX):=rfl
theorem aGx:tab 182=some (.code aLY):=rfl
theorem X0:tab 183=some (.code aLZ):=rfl
theorem aGy:tab 184=some (.code aL0):=rfl
theorem aGz:tab 185=some (.code aL1):=rfl
theorem aGA:tab 186=some (.code aL2):=rfl
theorem aGB:tab 189=some (.code aL3):=rfl
theorem aGC:tab 190=some (.code aL4):=rfl
theorem aGD:tab 192=some (.code aL5):=rfl
theorem aGE:tab 194=some (.code aL6):=rfl
theorem X1:tab 195=some (.code aL7):=rfl
theorem X2:tab 196=some (.code aL8):=rfl
theorem aGF:tab 197=some (.code aL9):=rfl
theorem aGG:tab 198=some (.code aMa):=rfl
theorem aGH:tab 199=some (.code aMb):=rfl
theorem aGI:tab 203=some (.code aMc):=rfl
theorem aGJ:tab 205=some (.code aMd):=rfl
theorem aGK:tab 206=some (.code aMe):=rfl
theorem aGL:tab 207=some (.code aMf):=rfl
theorem aGM:tab 208=some (.code aMg):=rfl
theorem aGN:tab 209=some (.code aMh):=rfl
theorem aGO:tab 210=some (.code aMi):=rfl
theorem aGP:tab 211=some (.code aMj):=rfl
theorem aGQ:tab 212=some (.code aMk):=rfl
theorem aGR:tab 213=some (.code aMl):=rfl
theorem aGS:tab 215=some (.code aMm):=rfl
theorem aGT:tab 216=some (.code aMn):=rfl
theorem aGU:tab 217=some (.code aMo):=rfl
theorem aGV:tab 218=some (.code aMp):=rfl
theorem P0:tab 219=some (.code aAa):=rfl
theorem X3:tab 220=some (.code aMq):=rfl
theorem aGW:tab 221=some (.code aMr):=rfl
theorem aGX:tab 222=some (.code aMs):=rfl
theorem aGY:tab 223=some (.code aMt):=rfl
theorem aGZ:tab 224=some (.code aMu):=rfl
theorem aG0:tab 225=some (.code aMv):=rfl
theorem aG1:tab 226=some (.code aMw):=rfl
theorem aG2:tab 237=some (.code aMx):=rfl
theorem aG3:tab 238=some (.code aMy):=rfl
theorem aG4:tab 247=some (.code aMz):=rfl
theorem aG5:tab 248=some (.code aMA):=rfl
theorem aG6:tab 249=some (.code aMB):=rfl
theorem aG7:tab 250=some (.code aMC):=rfl
theorem aG8:tab 251=some (.code aMD):=rfl
theorem aG9:tab 252=some (.code aME):=rfl
theorem aHa:tab 253=some (.code aMF):=rfl
theorem aHb:tab 257=some (.code aMG):=rfl
theorem aHc:tab 258=some (.code aE7):=rfl
theorem aHd:tab 259=some (.code aE9):=rfl
theorem aHe:tab 260=some (.code aMH):=rfl
theorem aHf:tab 261=some (.code aMI):=rfl
theorem aHg:tab 262=some (.code aMJ):=rfl
theorem aHh:tab 264=some (.code aMK):=rfl
theorem X4:tab 265=some (.code aML):=rfl
theorem aHi:tab 266=some (.code aMM):=rfl
theorem aHj:tab 267=some (.code aMN):=rfl
theorem X5:tab 268=some (.code aBE):=rfl
theorem aHk:tab 269=some (.code aMO):=rfl
theorem aHl:tab 275=some (.prim false E0):=rfl
theorem P1:tab 279=some (.code aMP):=rfl
theorem aHm:tab 280=some (.code aMQ):=rfl
theorem X6:tab 281=some (.code aMR):=rfl
theorem P2:tab 282=some (.code aMS):=rfl
theorem aHn:tab 283=some (.code aMT):=rfl
theorem aHo:tab 285=some (.code aMU):=rfl
theorem aHp:tab 286=some (.code aFq):=rfl
theorem aHq:tab 287=some (.code aMV):=rfl
theorem aHr:tab 288=some (.code aMW):=rfl
theorem aHs:tab 289=some (.code aMX):=rfl
theorem aHt:tab 290=some (.prim false (fY 1)):=rfl
theorem aHu:tab 291=some (.code aMY):=rfl
end Go.Proofs.YtfejhjllooomlaaGreat
