/- The table of the seat's functions. Printed by a program. -/
import Derived.Test.YtfejhjllooomlaaGreatQX1
import Derived.Test.YtfejhjllooomlaaGreatQIN
import Derived.Test.YtfejhjllooomlaaGreatChecked
set_option maxRecDepth 100000
namespace Go.Proofs.YtfejhjllooomlaaGreat
open Go.Vm
theorem nH:Go.Proofs.Tryz.prog.follows .mixedOrders=true:=Go.Proofs.Tryz.checked.mixed
theorem aMQ:BU Go.Proofs.Tryz.prog 64 (.prim false (fY 1)):=⟨rfl,pG nH (zero:=[.int .i64 0]) (by decide+kernel)⟩
theorem aMR:BU Go.Proofs.Tryz.prog 90 (.shp (OZ 3)):=VF
theorem aMS:BU Go.Proofs.Tryz.prog 91 (.prim false (fY 3)):=⟨rfl,pG nH (zero:=[.int .i64 0,.int .i64 0,.int .i64 0]) (by decide+kernel)⟩
theorem aFp:BU Go.Proofs.Tryz.prog 170 (.prim false (fY 3)):=⟨rfl,pG nH (zero:=[.int .i64 0,.int .i64 0,.int .i64 0]) (by decide+kernel)⟩
theorem aFq:BU Go.Proofs.Tryz.prog 171 (.prim false (fY 3)):=⟨rfl,pG nH (zero:=[.int .i64 0,.int .i64 0,.int .i64 0]) (by decide+kernel)⟩
theorem aFr:BU Go.Proofs.Tryz.prog 172 (.prim false (fY 5)):=⟨rfl,pG nH (zero:=[.int .i64 0,.int .i64 0,.int .i64 0,.int .i64 0,.int .i64 0]) (by decide+kernel)⟩
theorem aFs:BU Go.Proofs.Tryz.prog 173 (.prim false (fY 1)):=⟨rfl,pG nH (zero:=[.bool false]) (by decide+kernel)⟩
theorem aFt:BU Go.Proofs.Tryz.prog 275 (.prim false E0):=⟨rfl,UR Go.Proofs.Tryz.func275 (by kernel_rfl) (by kernel_rfl) (by kernel_rfl) (by kernel_rfl)⟩
theorem aFu:BU Go.Proofs.Tryz.prog 290 (.prim false (fY 1)):=⟨rfl,pG nH (zero:=[.int .i64 0]) (by decide+kernel)⟩
noncomputable def aPj:TT:= .node 149 (.node 86 (.node 53 (.node 32 (.node 21 (.node 15 (.node 11 (.leaf 6 (.code x6)) (.node 13 (.leaf 11 (.code x11)) (.leaf 13 (.code x13)))) (.node 17 (.leaf 15 (.code x15)) (.node 19 (.leaf 17 (.code x17)) (.leaf 19 (.code x19))))) (.node 29 (.node 22 (.leaf 21 (.code x21)) (.node 26 (.leaf 22 (.code x22)) (.leaf 26 (.code x26)))) (.node 30 (.leaf 29 (.code x29)) (.node 31 (.leaf 30 (.code x30)) (.leaf 31 (.code x31)))))) (.node 43 (.node 35 (.node 33 (.leaf 32 (.code x32)) (.node 34 (.leaf 33 (.code x33)) (.leaf 34 (.code x34)))) (.node 40 (.leaf 35 (.code x35)) (.node 41 (.leaf 40 (.code x40)) (.leaf 41 (.code x41))))) (.node 48 (.node 44 (.leaf 43 (.code x43)) (.node 45 (.leaf 44 (.code x44)) (.leaf 45 (.code x45)))) (.node 51 (.leaf 48 (.code x48)) (.node 52 (.leaf 51 (.code x51)) (.leaf 52 (.code x52))))))) (.node 69 (.node 59 (.node 56 (.node 54 (.leaf 53 (.code x53)) (.node 55 (.leaf 54 (.code x54)) (.leaf 55 (.code x55)))) (.node 57 (.leaf 56 (.code x56)) (.node 58 (.leaf 57 (.code x57)) (.leaf 58 (.code x58))))) (.node 64 (.node 60 (.leaf 59 (.code x59)) (.node 61 (.leaf 60 (.code x60)) (.leaf 61 (.code x61)))) (.node 65 (.leaf 64 (.prim false (fY 1))) (.node 68 (.leaf 65 (.code x65)) (.leaf 68 (.code x68)))))) (.node 79 (.node 73 (.node 70 (.leaf 69 (.code x69)) (.node 72 (.leaf 70 (.code x70)) (.leaf 72 (.code x72)))) (.node 77 (.leaf 73 (.code x73)) (.node 78 (.leaf 77 (.code x77)) (.leaf 78 (.code x78))))) (.node 82 (.node 80 (.leaf 79 (.code x79)) (.node 81 (.leaf 80 (.code x80)) (.leaf 81 (.code x81)))) (.node 83 (.leaf 82 (.code x82)) (.node 84 (.leaf 83 (.code x83)) (.leaf 84 (.code x84)))))))) (.node 111 (.node 99 (.node 92 (.node 89 (.node 87 (.leaf 86 (.code x86)) (.node 88 (.leaf 87 (.code x87)) (.leaf 88 (.code x88)))) (.node 90 (.leaf 89 (.code x89)) (.node 91 (.leaf 90 (.shp (OZ 3))) (.leaf 91 (.prim false (fY 3)))))) (.node 96 (.node 94 (.leaf 92 (.code x92)) (.node 95 (.leaf 94 (.code x94)) (.leaf 95 (.code x95)))) (.node 97 (.leaf 96 (.code x96)) (.node 98 (.leaf 97 (.code x97)) (.leaf 98 (.code x98)))))) (.node 105 (.node 102 (.node 100 (.leaf 99 (.code x99)) (.node 101 (.leaf 100 (.code aKU)) (.leaf 101 (.code aKV)))) (.node 103 (.leaf 102 (.code aKW)) (.node 104 (.leaf 103 (.code aKX)) (.leaf 104 (.code aKY))))) (.node 108 (.node 106 (.leaf 105 (.code aKZ)) (.node 107 (.leaf 106 (.code aK0)) (.leaf 107 (.code aK1)))) (.node 109 (.leaf 108 (.code aK2)) (.node 110 (.leaf 109 (.code aK3)) (.leaf 110 (.code aK4))))))) (.node 128 (.node 120 (.node 116 (.node 112 (.leaf 111 (.code aK5)) (.node 115 (.leaf 112 (.code aK6)) (.leaf 115 (.code aK7)))) (.node 117 (.leaf 116 (.code aK8)) (.node 119 (.leaf 117 (.code aK9)) (.leaf 119 (.code aLa))))) (.node 123 (.node 121 (.leaf 120 (.code aLb)) (.node 122 (.leaf 121 (.code aLc)) (.leaf 122 (.code aLd)))) (.node 124 (.leaf 123 (.code aLe)) (.node 125 (.leaf 124 (.code aLf)) (.leaf 125 (.code aLg)))))) (.node 140 (.node 137 (.node 131 (.leaf 128 (.code aLh)) (.node 136 (.leaf 131 (.code aLi)) (.leaf 136 (.code aLj)))) (.node 138 (.leaf 137 (.code aLk)) (.node 139 (.leaf 138 (.code aBu)) (.leaf 139 (.code aLl))))) (.node 143 (.node 141 (.leaf 140 (.code aBv)) (.node 142 (.leaf 141 (.code aBw)) (.leaf 142 (.code aLm)))) (.node 145 (.node 144 (.leaf 143 (.code aLn)) (.leaf 144 (.code aLo))) (.node 148 (.leaf 145 (.code aLp)) (.leaf 148 (.code aLq))))))))) (.node 211 (.node 178 (.node 163 (.node 157 (.node 154 (.node 150 (.leaf 149 (.code aLr)) (.node 151 (.leaf 150 (.code aLs)) (.leaf 151 (.code aLt)))) (.node 155 (.leaf 154 (.code aLu)) (.node 156 (.leaf 155 (.code aLv)) (.leaf 156 (.code aLw))))) (.node 160 (.node 158 (.leaf 157 (.code aLx)) (.node 159 (.leaf 158 (.code aLy)) (.leaf 159 (.code aLz)))) (.node 161 (.leaf 160 (.code aLA)) (.node 162 (.leaf 161 (.code aLB)) (.leaf 162 (.code aLC)))))) (.node 170 (.node 166 (.node 164 (.leaf 163 (.code aLD)) (.node 165 (.leaf 164 (.code aLE)) (.leaf 165 (.code aLF)))) (.node 167 (.leaf 166 (.code aLG)) (.node 168 (.leaf 167 (.code aLH)) (.leaf 168 (.code aLI))))) (.node 173 (.node 171 (.leaf 170 (.prim false (fY 3))) (.node 172 (.leaf 171 (.prim false (fY 3))) (.leaf 172 (.prim false (fY 5))))) (.node 174 (.leaf 173 (.prim false (fY 1))) (.node 175 (.leaf 174 (.code aLJ)) (.leaf 175 (.code aLK))))))) (.node 194 (.node 184 (.node 181 (.node 179 (.leaf 178 (.code aLL)) (.node 180 (.leaf 179 (.code aLM)) (.leaf 180 (.code aLN)))) (.node 182 (.leaf 181 (.code aLO)) (.node 183 (.leaf 182 (.code aLP)) (.leaf 183 (.code aLQ))))) (.node 189 (.node 185 (.leaf 184 (.code aLR)) (.node 186 (.leaf 185 (.code aLS)) (.leaf 186 (.code aLT)))) (.node 190 (.leaf 189 (.code aLU)) (.node 192 (.leaf 190 (.code aLV)) (.leaf 192 (.code aLW)))))) (.node 203 (.node 197 (.node 195 (.leaf 194 (.code aLX)) (.node 196 (.leaf 195 (.code aLY)) (.leaf 196 (.code aLZ)))) (.node 198 (.leaf 197 (.code aL0)) (.node 199 (.leaf 198 (.code aL1)) (.leaf 199 (.code aL2))))) (.node 207 (.node 205 (.leaf 203 (.code aL3)) (.node 206 (.leaf 205 (.code aL4)) (.leaf 206 (.code aL5)))) (.node 209 (.node 208 (.leaf 207 (.code aL6)) (.leaf 208 (.code aL7))) (.node 210 (.leaf 209 (.code aL8)) (.leaf 210 (.code aL9)))))))) (.node 257 (.node 224 (.node 218 (.node 215 (.node 212 (.leaf 211 (.code aMa)) (.node 213 (.leaf 212 (.code aMb)) (.leaf 213 (.code aMc)))) (.node 216 (.leaf 215 (.code aMd)) (.node 217 (.leaf 216 (.code aMe)) (.leaf 217 (.code aMf))))) (.node 221 (.node 219 (.leaf 218 (.code aMg)) (.node 220 (.leaf 219 (.code Z4)) (.leaf 220 (.code aMh)))) (.node 222 (.leaf 221 (.code aMi)) (.node 223 (.leaf 222 (.code aMj)) (.leaf 223 (.code aMk)))))) (.node 248 (.node 237 (.node 225 (.leaf 224 (.code aMl)) (.node 226 (.leaf 225 (.code aMm)) (.leaf 226 (.code aMn)))) (.node 238 (.leaf 237 (.code aMo)) (.node 247 (.leaf 238 (.code aMp)) (.leaf 247 (.code aMq))))) (.node 251 (.node 249 (.leaf 248 (.code aMr)) (.node 250 (.leaf 249 (.code aMs)) (.leaf 250 (.code aMt)))) (.node 252 (.leaf 251 (.code aMu)) (.node 253 (.leaf 252 (.code aMv)) (.leaf 253 (.code aMw))))))) (.node 275 (.node 264 (.node 260 (.node 258 (.leaf 257 (.code aMx)) (.node 259 (.leaf 258 (.code aEZ)) (.leaf 259 (.code aE1)))) (.node 261 (.leaf 260 (.code aMy)) (.node 262 (.leaf 261 (.code aMz)) (.leaf 262 (.code aMA))))) (.node 267 (.node 265 (.leaf 264 (.code aMB)) (.node 266 (.leaf 265 (.code aMC)) (.leaf 266 (.code aMD)))) (.node 268 (.leaf 267 (.code aME)) (.node 269 (.leaf 268 (.code aBx)) (.leaf 269 (.code aMF)))))) (.node 285 (.node 281 (.node 279 (.leaf 275 (.prim false E0)) (.node 280 (.leaf 279 (.code aMG)) (.leaf 280 (.code aMH)))) (.node 282 (.leaf 281 (.code aMI)) (.node 283 (.leaf 282 (.code aMJ)) (.leaf 283 (.code aMK))))) (.node 288 (.node 286 (.leaf 285 (.code aML)) (.node 287 (.leaf 286 (.code aFi)) (.leaf 287 (.code aMM)))) (.node 290 (.node 289 (.leaf 288 (.code aMN)) (.leaf 289 (.code aMO))) (.node 291 (.leaf 290 (.prim false (fY 1))) (.leaf 291 (.code aMP)))))))))
theorem XK:aPj.All (BU Go.Proofs.Tryz.prog):=⟨⟨⟨⟨⟨⟨⟨aPh,⟨aJZ,aJ0⟩⟩,⟨aJ1,⟨aJ2,aJ3⟩⟩⟩,⟨⟨aJ4,⟨aJ5,aJ6⟩⟩,⟨aJ7,⟨aJ8,aJ9⟩⟩⟩⟩,⟨⟨⟨aKa,⟨aKb,aKc⟩⟩,⟨aKd,⟨aKe,aKf⟩⟩⟩,⟨⟨aKg,⟨aKh,aKi⟩⟩,⟨aKj,⟨aKk,aKl⟩⟩⟩⟩⟩,⟨⟨⟨⟨aKm,⟨aKn,aKo⟩⟩,⟨aKp,⟨aKq,aKr⟩⟩⟩,⟨⟨aKs,⟨aKt,aKu⟩⟩,⟨aMQ,⟨aKv,aKw⟩⟩⟩⟩,⟨⟨⟨aKx,⟨aKy,aKz⟩⟩,⟨aKA,⟨aKB,aKC⟩⟩⟩,⟨⟨aKD,⟨aKE,aKF⟩⟩,⟨aKG,⟨aKH,aKI⟩⟩⟩⟩⟩⟩,⟨⟨⟨⟨⟨aKJ,⟨aKK,aKL⟩⟩,⟨aKM,⟨aMR,aMS⟩⟩⟩,⟨⟨aKN,⟨aKO,aKP⟩⟩,⟨aKQ,⟨aKR,aKS⟩⟩⟩⟩,⟨⟨⟨aKT,⟨aDh,aDi⟩⟩,⟨aDj,⟨aDk,aDl⟩⟩⟩,⟨⟨aDm,⟨aDn,aDo⟩⟩,⟨aDp,⟨aDq,aDr⟩⟩⟩⟩⟩,⟨⟨⟨⟨aDs,⟨aDt,aDu⟩⟩,⟨aDv,⟨aDw,aDx⟩⟩⟩,⟨⟨aDy,⟨aDz,aDA⟩⟩,⟨aDB,⟨aDC,aDD⟩⟩⟩⟩,⟨⟨⟨aDE,⟨aDF,aDG⟩⟩,⟨aDH,⟨aDI,aDJ⟩⟩⟩,⟨⟨aDK,⟨aDL,aDM⟩⟩,⟨⟨aDN,aDO⟩,⟨aDP,aDQ⟩⟩⟩⟩⟩⟩⟩,⟨⟨⟨⟨⟨⟨aDR,⟨aDS,aDT⟩⟩,⟨aDU,⟨aDV,aDW⟩⟩⟩,⟨⟨aDX,⟨aDY,aDZ⟩⟩,⟨aD0,⟨aD1,aD2⟩⟩⟩⟩,⟨⟨⟨aD3,⟨aD4,aD5⟩⟩,⟨aD6,⟨aD7,aD8⟩⟩⟩,⟨⟨aFp,⟨aFq,aFr⟩⟩,⟨aFs,⟨aD9,aEa⟩⟩⟩⟩⟩,⟨⟨⟨⟨aEb,⟨aEc,aEd⟩⟩,⟨aEe,⟨aEf,aEg⟩⟩⟩,⟨⟨aEh,⟨aEi,aEj⟩⟩,⟨aEk,⟨aEl,aEm⟩⟩⟩⟩,⟨⟨⟨aEn,⟨aEo,aEp⟩⟩,⟨aEq,⟨aEr,aEs⟩⟩⟩,⟨⟨aEt,⟨aEu,aEv⟩⟩,⟨⟨aEw,aEx⟩,⟨aEy,aEz⟩⟩⟩⟩⟩⟩,⟨⟨⟨⟨⟨aEA,⟨aEB,aEC⟩⟩,⟨aED,⟨aEE,aEF⟩⟩⟩,⟨⟨aEG,⟨aEH,aEI⟩⟩,⟨aEJ,⟨aEK,aEL⟩⟩⟩⟩,⟨⟨⟨aEM,⟨aEN,aEO⟩⟩,⟨aEP,⟨aEQ,aER⟩⟩⟩,⟨⟨aES,⟨aET,aEU⟩⟩,⟨aEV,⟨aEW,aEX⟩⟩⟩⟩⟩,⟨⟨⟨⟨aEY,⟨aE0,aE2⟩⟩,⟨aE3,⟨aE4,aE5⟩⟩⟩,⟨⟨aE6,⟨aE7,aE8⟩⟩,⟨aE9,⟨aFa,aFb⟩⟩⟩⟩,⟨⟨⟨aFt,⟨aFc,aFd⟩⟩,⟨aFe,⟨aFf,aFg⟩⟩⟩,⟨⟨aFh,⟨aFj,aFk⟩⟩,⟨⟨aFl,aFm⟩,⟨aFu,aFn⟩⟩⟩⟩⟩⟩⟩⟩
noncomputable def aY:pF:=aPj.get
theorem aJA:aY 6=some (.code x6):=rfl
theorem aMT:aY 11=some (.code x11):=rfl
theorem aMU:aY 13=some (.code x13):=rfl
theorem aMV:aY 15=some (.code x15):=rfl
theorem aMW:aY 17=some (.code x17):=rfl
theorem aMX:aY 19=some (.code x19):=rfl
theorem aMY:aY 21=some (.code x21):=rfl
theorem aMZ:aY 22=some (.code x22):=rfl
theorem aM0:aY 26=some (.code x26):=rfl
theorem aM1:aY 29=some (.code x29):=rfl
theorem aM2:aY 30=some (.code x30):=rfl
theorem aBA:aY 31=some (.code x31):=rfl
theorem aM3:aY 32=some (.code x32):=rfl
theorem aM4:aY 33=some (.code x33):=rfl
theorem aM5:aY 34=some (.code x34):=rfl
theorem aM6:aY 35=some (.code x35):=rfl
theorem aM7:aY 40=some (.code x40):=rfl
theorem aM8:aY 41=some (.code x41):=rfl
theorem aM9:aY 43=some (.code x43):=rfl
theorem aNa:aY 44=some (.code x44):=rfl
theorem aNb:aY 45=some (.code x45):=rfl
theorem aNc:aY 48=some (.code x48):=rfl
theorem aNd:aY 51=some (.code x51):=rfl
theorem aNe:aY 52=some (.code x52):=rfl
theorem aNf:aY 53=some (.code x53):=rfl
theorem aNg:aY 54=some (.code x54):=rfl
theorem aBB:aY 55=some (.code x55):=rfl
theorem aNh:aY 56=some (.code x56):=rfl
theorem aNi:aY 57=some (.code x57):=rfl
theorem aNj:aY 58=some (.code x58):=rfl
theorem aNk:aY 59=some (.code x59):=rfl
theorem aNl:aY 60=some (.code x60):=rfl
theorem aNm:aY 61=some (.code x61):=rfl
theorem aNn:aY 64=some (.prim false (fY 1)):=rfl
theorem aNo:aY 65=some (.code x65):=rfl
theorem aNp:aY 68=some (.code x68):=rfl
theorem aNq:aY 69=some (.code x69):=rfl
theorem aNr:aY 70=some (.code x70):=rfl
theorem aNs:aY 72=some (.code x72):=rfl
theorem aNt:aY 73=some (.code x73):=rfl
theorem aBC:aY 77=some (.code x77):=rfl
theorem aBD:aY 78=some (.code x78):=rfl
theorem aNu:aY 79=some (.code x79):=rfl
theorem aNv:aY 80=some (.code x80):=rfl
theorem aNw:aY 81=some (.code x81):=rfl
theorem aBE:aY 82=some (.code x82):=rfl
theorem aNx:aY 83=some (.code x83):=rfl
theorem aNy:aY 84=some (.code x84):=rfl
theorem aBF:aY 86=some (.code x86):=rfl
theorem aNz:aY 87=some (.code x87):=rfl
theorem aNA:aY 88=some (.code x88):=rfl
theorem aNB:aY 89=some (.code x89):=rfl
theorem aNC:aY 90=some (.shp (OZ 3)):=rfl
theorem aND:aY 91=some (.prim false (fY 3)):=rfl
theorem aNE:aY 92=some (.code x92):=rfl
theorem aNF:aY 94=some (.code x94):=rfl
theorem aNG:aY 95=some (.code x95):=rfl
theorem aNH:aY 96=some (.code x96):=rfl
theorem aNI:aY 97=some (.code x97):=rfl
theorem aNJ:aY 98=some (.code x98):=rfl
theorem aNK:aY 99=some (.code x99):=rfl
theorem aFv:aY 100=some (.code aKU):=rfl
theorem aFw:aY 101=some (.code aKV):=rfl
theorem aFx:aY 102=some (.code aKW):=rfl
theorem aFy:aY 103=some (.code aKX):=rfl
theorem aFz:aY 104=some (.code aKY):=rfl
theorem aFA:aY 105=some (.code aKZ):=rfl
theorem aFB:aY 106=some (.code aK0):=rfl
theorem aFC:aY 107=some (.code aK1):=rfl
theorem aFD:aY 108=some (.code aK2):=rfl
theorem aFE:aY 109=some (.code aK3):=rfl
theorem aFF:aY 110=some (.code aK4):=rfl
theorem aFG:aY 111=some (.code aK5):=rfl
theorem aFH:aY 112=some (.code aK6):=rfl
theorem XL:aY 115=some (.code aK7):=rfl
theorem aFI:aY 116=some (.code aK8):=rfl
theorem aFJ:aY 117=some (.code aK9):=rfl
theorem aFK:aY 119=some (.code aLa):=rfl
theorem aFL:aY 120=some (.code aLb):=rfl
theorem aFM:aY 121=some (.code aLc):=rfl
theorem XM:aY 122=some (.code aLd):=rfl
theorem aFN:aY 123=some (.code aLe):=rfl
theorem aFO:aY 124=some (.code aLf):=rfl
theorem aFP:aY 125=some (.code aLg):=rfl
theorem aFQ:aY 128=some (.code aLh):=rfl
theorem aFR:aY 131=some (.code aLi):=rfl
theorem XN:aY 136=some (.code aLj):=rfl
theorem XO:aY 137=some (.code aLk):=rfl
theorem XP:aY 138=some (.code aBu):=rfl
theorem aFS:aY 139=some (.code aLl):=rfl
theorem XQ:aY 140=some (.code aBv):=rfl
theorem XS:aY 141=some (.code aBw):=rfl
theorem aFT:aY 142=some (.code aLm):=rfl
theorem aFU:aY 143=some (.code aLn):=rfl
theorem aFV:aY 144=some (.code aLo):=rfl
theorem aFW:aY 145=some (.code aLp):=rfl
theorem aFX:aY 148=some (.code aLq):=rfl
theorem XT:aY 149=some (.code aLr):=rfl
theorem aFY:aY 150=some (.code aLs):=rfl
theorem aFZ:aY 151=some (.code aLt):=rfl
theorem aF0:aY 154=some (.code aLu):=rfl
theorem aF1:aY 155=some (.code aLv):=rfl
theorem aF2:aY 156=some (.code aLw):=rfl
theorem aF3:aY 157=some (.code aLx):=rfl
theorem aF4:aY 158=some (.code aLy):=rfl
theorem aF5:aY 159=some (.code aLz):=rfl
theorem aF6:aY 160=some (.code aLA):=rfl
theorem aF7:aY 161=some (.code aLB):=rfl
theorem aF8:aY 162=some (.code aLC):=rfl
theorem aF9:aY 163=some (.code aLD):=rfl
theorem aGa:aY 164=some (.code aLE):=rfl
theorem aGb:aY 165=some (.code aLF):=rfl
theorem aGc:aY 166=some (.code aLG):=rfl
theorem aGd:aY 167=some (.code aLH):=rfl
theorem aGe:aY 168=some (.code aLI):=rfl
theorem aGf:aY 170=some (.prim false (fY 3)):=rfl
theorem aGg:aY 171=some (.prim false (fY 3)):=rfl
theorem aGh:aY 172=some (.prim false (fY 5)):=rfl
theorem aGi:aY 173=some (.prim false (fY 1)):=rfl
theorem aGj:aY 174=some (.code aLJ):=rfl
theorem aGk:aY 175=some (.code aLK):=rfl
theorem aGl:aY 178=some (.code aLL):=rfl
theorem aGm:aY 179=some (.code aLM):=rfl
theorem aGn:aY 180=some (.code aLN):=rfl
theorem aGo:aY 181=some (.code aLO):=rfl
theorem aGp:aY 182=some (.code aLP):=rfl
theorem XU:aY 183=some (.code aLQ):=rfl
theorem aGq:aY 184=some (.code aLR):=rfl
theorem aGr:aY 185=some (.code aLS):=rfl
theorem aGs:aY 186=some (.code aLT):=rfl
theorem aGt:aY 189=some (.code aLU):=rfl
theorem aGu:aY 190=some (.code aLV):=rfl
theorem aGv:aY 192=some (.code aLW):=rfl
theorem aGw:aY 194=some (.code aLX):=rfl
theorem XV:aY 195=some (.code aLY):=rfl
theorem XW:aY 196=some (.code aLZ):=rfl
theorem aGx:aY 197=some (.code aL0):=rfl
theorem aGy:aY 198=some (.code aL1):=rfl
theorem aGz:aY 199=some (.code aL2):=rfl
theorem aGA:aY 203=some (.code aL3):=rfl
theorem aGB:aY 205=some (.code aL4):=rfl
theorem aGC:aY 206=some (.code aL5):=rfl
theorem aGD:aY 207=some (.code aL6):=rfl
theorem aGE:aY 208=some (.code aL7):=rfl
theorem aGF:aY 209=some (.code aL8):=rfl
theorem aGG:aY 210=some (.code aL9):=rfl
theorem aGH:aY 211=some (.code aMa):=rfl
theorem aGI:aY 212=some (.code aMb):=rfl
theorem aGJ:aY 213=some (.code aMc):=rfl
theorem aGK:aY 215=some (.code aMd):=rfl
theorem aGL:aY 216=some (.code aMe):=rfl
theorem aGM:aY 217=some (.code aMf):=rfl
theorem aGN:aY 218=some (.code aMg):=rfl
theorem PU:aY 219=some (.code Z4):=rfl
theorem XX:aY 220=some (.code aMh):=rfl
theorem aGO:aY 221=some (.code aMi):=rfl
theorem aGP:aY 222=some (.code aMj):=rfl
theorem aGQ:aY 223=some (.code aMk):=rfl
theorem aGR:aY 224=some (.code aMl):=rfl
theorem aGS:aY 225=some (.code aMm):=rfl
theorem aGT:aY 226=some (.code aMn):=rfl
theorem aGU:aY 237=some (.code aMo):=rfl
theorem aGV:aY 238=some (.code aMp):=rfl
theorem aGW:aY 247=some (.code aMq):=rfl
theorem aGX:aY 248=some (.code aMr):=rfl
theorem aGY:aY 249=some (.code aMs):=rfl
theorem aGZ:aY 250=some (.code aMt):=rfl
theorem aG0:aY 251=some (.code aMu):=rfl
theorem aG1:aY 252=some (.code aMv):=rfl
theorem aG2:aY 253=some (.code aMw):=rfl
theorem aG3:aY 257=some (.code aMx):=rfl
theorem aG4:aY 258=some (.code aEZ):=rfl
theorem aG5:aY 259=some (.code aE1):=rfl
theorem aG6:aY 260=some (.code aMy):=rfl
theorem aG7:aY 261=some (.code aMz):=rfl
theorem aG8:aY 262=some (.code aMA):=rfl
theorem aG9:aY 264=some (.code aMB):=rfl
theorem XY:aY 265=some (.code aMC):=rfl
theorem aHa:aY 266=some (.code aMD):=rfl
theorem aHb:aY 267=some (.code aME):=rfl
theorem XZ:aY 268=some (.code aBx):=rfl
theorem aHc:aY 269=some (.code aMF):=rfl
theorem aHd:aY 275=some (.prim false E0):=rfl
theorem PW:aY 279=some (.code aMG):=rfl
theorem aHe:aY 280=some (.code aMH):=rfl
theorem X0:aY 281=some (.code aMI):=rfl
theorem PX:aY 282=some (.code aMJ):=rfl
theorem aHf:aY 283=some (.code aMK):=rfl
theorem aHg:aY 285=some (.code aML):=rfl
theorem aHh:aY 286=some (.code aFi):=rfl
theorem aHi:aY 287=some (.code aMM):=rfl
theorem aHj:aY 288=some (.code aMN):=rfl
theorem aHk:aY 289=some (.code aMO):=rfl
theorem aHl:aY 290=some (.prim false (fY 1)):=rfl
theorem aHm:aY 291=some (.code aMP):=rfl
end Go.Proofs.YtfejhjllooomlaaGreat
