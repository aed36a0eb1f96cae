/- The table of the seat's functions. Printed by a program. -/
import Derived.Test.YtfejhjllooomlaaGreatEQX1
import Derived.Test.YtfejhjllooomlaaGreatChecked
set_option maxRecDepth 100000
namespace Go.Proofs.YtfejhjllooomlaaGreat
open Go.Vm
theorem mR:Go.Proofs.Tryz.prog.follows .mixedOrders=true:=Go.Proofs.Tryz.checked.mixed
theorem aLZ:B9 Go.Proofs.Tryz.prog 64 (.prim false (fL 1)):=⟨rfl,oM mR (zero:=[.int .i64 0]) (by decide+kernel)⟩
theorem aL0:B9 Go.Proofs.Tryz.prog 91 (.prim false (fL 3)):=⟨rfl,oM mR (zero:=[.int .i64 0,.int .i64 0,.int .i64 0]) (by decide+kernel)⟩
theorem aEV:B9 Go.Proofs.Tryz.prog 170 (.prim false (fL 3)):=⟨rfl,oM mR (zero:=[.int .i64 0,.int .i64 0,.int .i64 0]) (by decide+kernel)⟩
theorem aEW:B9 Go.Proofs.Tryz.prog 171 (.prim false (fL 3)):=⟨rfl,oM mR (zero:=[.int .i64 0,.int .i64 0,.int .i64 0]) (by decide+kernel)⟩
theorem aEX:B9 Go.Proofs.Tryz.prog 172 (.prim false (fL 5)):=⟨rfl,oM mR (zero:=[.int .i64 0,.int .i64 0,.int .i64 0,.int .i64 0,.int .i64 0]) (by decide+kernel)⟩
theorem aEY:B9 Go.Proofs.Tryz.prog 173 (.prim false (fL 1)):=⟨rfl,oM mR (zero:=[.bool false]) (by decide+kernel)⟩
theorem aEZ:B9 Go.Proofs.Tryz.prog 275 (.prim false EP):=⟨rfl,UD Go.Proofs.Tryz.func275 (by kernel_rfl) (by kernel_rfl) (by kernel_rfl) (by kernel_rfl)⟩
theorem aE0:B9 Go.Proofs.Tryz.prog 290 (.prim false (fL 1)):=⟨rfl,oM mR (zero:=[.int .i64 0]) (by decide+kernel)⟩
noncomputable def aN4:TT:= .node 161 (.node 89 (.node 53 (.node 22 (.node 15 (.node 12 (.node 10 (.leaf 4 (.code x4)) (.leaf 10 (.code x10))) (.node 13 (.leaf 12 (.code x12)) (.node 14 (.leaf 13 (.code x13)) (.leaf 14 (.code x14))))) (.node 19 (.node 16 (.leaf 15 (.code x15)) (.node 18 (.leaf 16 (.code x16)) (.leaf 18 (.code x18)))) (.node 20 (.leaf 19 (.code x19)) (.node 21 (.leaf 20 (.code x20)) (.leaf 21 (.code x21)))))) (.node 30 (.node 24 (.node 23 (.leaf 22 (.code x22)) (.leaf 23 (.code x23))) (.node 25 (.leaf 24 (.code x24)) (.node 26 (.leaf 25 (.code x25)) (.leaf 26 (.code x26))))) (.node 49 (.node 40 (.leaf 30 (.code x30)) (.node 44 (.leaf 40 (.code x40)) (.leaf 44 (.code x44)))) (.node 50 (.leaf 49 (.code x49)) (.node 51 (.leaf 50 (.code x50)) (.leaf 51 (.code x51))))))) (.node 64 (.node 58 (.node 55 (.node 54 (.leaf 53 (.code x53)) (.leaf 54 (.code x54))) (.node 56 (.leaf 55 (.code x55)) (.node 57 (.leaf 56 (.code x56)) (.leaf 57 (.code x57))))) (.node 61 (.node 59 (.leaf 58 (.code x58)) (.node 60 (.leaf 59 (.code x59)) (.leaf 60 (.code x60)))) (.node 62 (.leaf 61 (.code x61)) (.node 63 (.leaf 62 (.code x62)) (.leaf 63 (.code x63)))))) (.node 71 (.node 68 (.node 66 (.leaf 64 (.prim false (fL 1))) (.node 67 (.leaf 66 (.code x66)) (.leaf 67 (.code x67)))) (.node 69 (.leaf 68 (.code x68)) (.node 70 (.leaf 69 (.code x69)) (.leaf 70 (.code x70))))) (.node 83 (.node 72 (.leaf 71 (.code x71)) (.node 73 (.leaf 72 (.code x72)) (.leaf 73 (.code x73)))) (.node 87 (.leaf 83 (.code x83)) (.node 88 (.leaf 87 (.code x87)) (.leaf 88 (.code x88)))))))) (.node 118 (.node 104 (.node 98 (.node 92 (.node 91 (.leaf 89 (.code x89)) (.leaf 91 (.prim false (fL 3)))) (.node 96 (.leaf 92 (.code x92)) (.node 97 (.leaf 96 (.code x96)) (.leaf 97 (.code x97))))) (.node 101 (.node 99 (.leaf 98 (.code x98)) (.node 100 (.leaf 99 (.code x99)) (.leaf 100 (.code aJ5)))) (.node 102 (.leaf 101 (.code aJ6)) (.node 103 (.leaf 102 (.code aJ7)) (.leaf 103 (.code aJ8)))))) (.node 110 (.node 107 (.node 105 (.leaf 104 (.code aJ9)) (.node 106 (.leaf 105 (.code aKa)) (.leaf 106 (.code aKb)))) (.node 108 (.leaf 107 (.code aKc)) (.node 109 (.leaf 108 (.code aKd)) (.leaf 109 (.code aKe))))) (.node 113 (.node 111 (.leaf 110 (.code aKf)) (.node 112 (.leaf 111 (.code aKg)) (.leaf 112 (.code aKh)))) (.node 114 (.leaf 113 (.code aKi)) (.node 115 (.leaf 114 (.code aKj)) (.leaf 115 (.code aKk))))))) (.node 131 (.node 123 (.node 120 (.node 119 (.leaf 118 (.code aKl)) (.leaf 119 (.code aKm))) (.node 121 (.leaf 120 (.code aKn)) (.node 122 (.leaf 121 (.code aKo)) (.leaf 122 (.code aKp))))) (.node 126 (.node 124 (.leaf 123 (.code aKq)) (.node 125 (.leaf 124 (.code aKr)) (.leaf 125 (.code aKs)))) (.node 127 (.leaf 126 (.code aKt)) (.node 128 (.leaf 127 (.code aA4)) (.leaf 128 (.code aKu)))))) (.node 155 (.node 149 (.node 139 (.leaf 131 (.code aKv)) (.node 148 (.leaf 139 (.code aKw)) (.leaf 148 (.code aKx)))) (.node 150 (.leaf 149 (.code aKy)) (.node 151 (.leaf 150 (.code aKz)) (.leaf 151 (.code aKA))))) (.node 158 (.node 156 (.leaf 155 (.code aKB)) (.node 157 (.leaf 156 (.code aKC)) (.leaf 157 (.code aKD)))) (.node 159 (.leaf 158 (.code aKE)) (.node 160 (.leaf 159 (.code aKF)) (.leaf 160 (.code aKG))))))))) (.node 220 (.node 185 (.node 172 (.node 166 (.node 163 (.node 162 (.leaf 161 (.code aKH)) (.leaf 162 (.code aKI))) (.node 164 (.leaf 163 (.code aKJ)) (.node 165 (.leaf 164 (.code aKK)) (.leaf 165 (.code aKL))))) (.node 169 (.node 167 (.leaf 166 (.code aKM)) (.node 168 (.leaf 167 (.code aKN)) (.leaf 168 (.code aKO)))) (.node 170 (.leaf 169 (.code aKP)) (.node 171 (.leaf 170 (.prim false (fL 3))) (.leaf 171 (.prim false (fL 3))))))) (.node 179 (.node 176 (.node 173 (.leaf 172 (.prim false (fL 5))) (.leaf 173 (.prim false (fL 1)))) (.node 177 (.leaf 176 (.code aKQ)) (.node 178 (.leaf 177 (.code aKR)) (.leaf 178 (.code aKS))))) (.node 182 (.node 180 (.leaf 179 (.code aKT)) (.node 181 (.leaf 180 (.code aKU)) (.leaf 181 (.code aKV)))) (.node 183 (.leaf 182 (.code aKW)) (.node 184 (.leaf 183 (.code aKX)) (.leaf 184 (.code aKY))))))) (.node 207 (.node 190 (.node 187 (.node 186 (.leaf 185 (.code aKZ)) (.leaf 186 (.code aK0))) (.node 188 (.leaf 187 (.code aK1)) (.node 189 (.leaf 188 (.code aK2)) (.leaf 189 (.code aK3))))) (.node 203 (.node 192 (.leaf 190 (.code aK4)) (.node 194 (.leaf 192 (.code aK5)) (.leaf 194 (.code aK6)))) (.node 205 (.leaf 203 (.code aK7)) (.node 206 (.leaf 205 (.code aK8)) (.leaf 206 (.code aK9)))))) (.node 214 (.node 210 (.node 208 (.leaf 207 (.code aLa)) (.node 209 (.leaf 208 (.code aLb)) (.leaf 209 (.code aLc)))) (.node 211 (.leaf 210 (.code aLd)) (.node 212 (.leaf 211 (.code aLe)) (.leaf 212 (.code aLf))))) (.node 217 (.node 215 (.leaf 214 (.code aLg)) (.node 216 (.leaf 215 (.code aLh)) (.leaf 216 (.code aLi)))) (.node 218 (.leaf 217 (.code aLj)) (.node 219 (.leaf 218 (.code aLk)) (.leaf 219 (.code Y7)))))))) (.node 261 (.node 231 (.node 225 (.node 222 (.node 221 (.leaf 220 (.code aLl)) (.leaf 221 (.code aLm))) (.node 223 (.leaf 222 (.code aLn)) (.node 224 (.leaf 223 (.code aLo)) (.leaf 224 (.code aLp))))) (.node 228 (.node 226 (.leaf 225 (.code aLq)) (.node 227 (.leaf 226 (.code aLr)) (.leaf 227 (.code aLs)))) (.node 229 (.leaf 228 (.code aLt)) (.node 230 (.leaf 229 (.code aLu)) (.leaf 230 (.code aLv)))))) (.node 237 (.node 234 (.node 232 (.leaf 231 (.code aLw)) (.node 233 (.leaf 232 (.code aLx)) (.leaf 233 (.code aLy)))) (.node 235 (.leaf 234 (.code aLz)) (.node 236 (.leaf 235 (.code aLA)) (.leaf 236 (.code aLB))))) (.node 258 (.node 238 (.leaf 237 (.code aLC)) (.node 257 (.leaf 238 (.code aLD)) (.leaf 257 (.code aLE)))) (.node 259 (.leaf 258 (.code aEu)) (.node 260 (.leaf 259 (.code aEw)) (.leaf 260 (.code aLF))))))) (.node 272 (.node 266 (.node 263 (.node 262 (.leaf 261 (.code aLG)) (.leaf 262 (.code aLH))) (.node 264 (.leaf 263 (.code aLI)) (.node 265 (.leaf 264 (.code aLJ)) (.leaf 265 (.code aLK))))) (.node 269 (.node 267 (.leaf 266 (.code aLL)) (.node 268 (.leaf 267 (.code aLM)) (.leaf 268 (.code aA5)))) (.node 270 (.leaf 269 (.code aLN)) (.node 271 (.leaf 270 (.code aLO)) (.leaf 271 (.code aLP)))))) (.node 287 (.node 275 (.node 273 (.leaf 272 (.code aLQ)) (.node 274 (.leaf 273 (.code aLR)) (.leaf 274 (.code aLS)))) (.node 285 (.leaf 275 (.prim false EP)) (.node 286 (.leaf 285 (.code aLT)) (.leaf 286 (.code aEO))))) (.node 290 (.node 288 (.leaf 287 (.code aLU)) (.node 289 (.leaf 288 (.code aLV)) (.leaf 289 (.code aLW)))) (.node 291 (.leaf 290 (.prim false (fL 1))) (.node 292 (.leaf 291 (.code aLX)) (.leaf 292 (.code aLY)))))))))
theorem W5:aN4.All (B9 Go.Proofs.Tryz.prog):=⟨⟨⟨⟨⟨⟨⟨aN3,aJi⟩,⟨aJj,⟨aJk,aJl⟩⟩⟩,⟨⟨aJm,⟨aJn,aJo⟩⟩,⟨aJp,⟨aJq,aJr⟩⟩⟩⟩,⟨⟨⟨aJs,aJt⟩,⟨aJu,⟨aJv,aJw⟩⟩⟩,⟨⟨aJx,⟨aJy,aJz⟩⟩,⟨aJA,⟨aJB,aJC⟩⟩⟩⟩⟩,⟨⟨⟨⟨aJD,aJE⟩,⟨aJF,⟨aJG,aJH⟩⟩⟩,⟨⟨aJI,⟨aJJ,aJK⟩⟩,⟨aJL,⟨aJM,aJN⟩⟩⟩⟩,⟨⟨⟨aLZ,⟨aJO,aJP⟩⟩,⟨aJQ,⟨aJR,aJS⟩⟩⟩,⟨⟨aJT,⟨aJU,aJV⟩⟩,⟨aJW,⟨aJX,aJY⟩⟩⟩⟩⟩⟩,⟨⟨⟨⟨⟨aJZ,aL0⟩,⟨aJ0,⟨aJ1,aJ2⟩⟩⟩,⟨⟨aJ3,⟨aJ4,aCS⟩⟩,⟨aCT,⟨aCU,aCV⟩⟩⟩⟩,⟨⟨⟨aCW,⟨aCX,aCY⟩⟩,⟨aCZ,⟨aC0,aC1⟩⟩⟩,⟨⟨aC2,⟨aC3,aC4⟩⟩,⟨aC5,⟨aC6,aC7⟩⟩⟩⟩⟩,⟨⟨⟨⟨aC8,aC9⟩,⟨aDa,⟨aDb,aDc⟩⟩⟩,⟨⟨aDd,⟨aDe,aDf⟩⟩,⟨aDg,⟨aDh,aDi⟩⟩⟩⟩,⟨⟨⟨aDj,⟨aDk,aDl⟩⟩,⟨aDm,⟨aDn,aDo⟩⟩⟩,⟨⟨aDp,⟨aDq,aDr⟩⟩,⟨aDs,⟨aDt,aDu⟩⟩⟩⟩⟩⟩⟩,⟨⟨⟨⟨⟨⟨aDv,aDw⟩,⟨aDx,⟨aDy,aDz⟩⟩⟩,⟨⟨aDA,⟨aDB,aDC⟩⟩,⟨aDD,⟨aEV,aEW⟩⟩⟩⟩,⟨⟨⟨aEX,aEY⟩,⟨aDE,⟨aDF,aDG⟩⟩⟩,⟨⟨aDH,⟨aDI,aDJ⟩⟩,⟨aDK,⟨aDL,aDM⟩⟩⟩⟩⟩,⟨⟨⟨⟨aDN,aDO⟩,⟨aDP,⟨aDQ,aDR⟩⟩⟩,⟨⟨aDS,⟨aDT,aDU⟩⟩,⟨aDV,⟨aDW,aDX⟩⟩⟩⟩,⟨⟨⟨aDY,⟨aDZ,aD0⟩⟩,⟨aD1,⟨aD2,aD3⟩⟩⟩,⟨⟨aD4,⟨aD5,aD6⟩⟩,⟨aD7,⟨aD8,aD9⟩⟩⟩⟩⟩⟩,⟨⟨⟨⟨⟨aEa,aEb⟩,⟨aEc,⟨aEd,aEe⟩⟩⟩,⟨⟨aEf,⟨aEg,aEh⟩⟩,⟨aEi,⟨aEj,aEk⟩⟩⟩⟩,⟨⟨⟨aEl,⟨aEm,aEn⟩⟩,⟨aEo,⟨aEp,aEq⟩⟩⟩,⟨⟨aEr,⟨aEs,aEt⟩⟩,⟨aEv,⟨aEx,aEy⟩⟩⟩⟩⟩,⟨⟨⟨⟨aEz,aEA⟩,⟨aEB,⟨aEC,aED⟩⟩⟩,⟨⟨aEE,⟨aEF,aEG⟩⟩,⟨aEH,⟨aEI,aEJ⟩⟩⟩⟩,⟨⟨⟨aEK,⟨aEL,aEM⟩⟩,⟨aEZ,⟨aEN,aEP⟩⟩⟩,⟨⟨aEQ,⟨aER,aES⟩⟩,⟨aE0,⟨aET,aEU⟩⟩⟩⟩⟩⟩⟩⟩
noncomputable def tab:oL:=aN4.get
theorem aIU:tab 4=some (.code x4):=rfl
theorem aL1:tab 10=some (.code x10):=rfl
theorem aL2:tab 12=some (.code x12):=rfl
theorem aL3:tab 13=some (.code x13):=rfl
theorem aL4:tab 14=some (.code x14):=rfl
theorem aL5:tab 15=some (.code x15):=rfl
theorem aL6:tab 16=some (.code x16):=rfl
theorem aL7:tab 18=some (.code x18):=rfl
theorem aL8:tab 19=some (.code x19):=rfl
theorem aL9:tab 20=some (.code x20):=rfl
theorem aMa:tab 21=some (.code x21):=rfl
theorem aMb:tab 22=some (.code x22):=rfl
theorem aMc:tab 23=some (.code x23):=rfl
theorem aMd:tab 24=some (.code x24):=rfl
theorem aMe:tab 25=some (.code x25):=rfl
theorem aMf:tab 26=some (.code x26):=rfl
theorem aMg:tab 30=some (.code x30):=rfl
theorem aMh:tab 40=some (.code x40):=rfl
theorem aMi:tab 44=some (.code x44):=rfl
theorem aMj:tab 49=some (.code x49):=rfl
theorem aMk:tab 50=some (.code x50):=rfl
theorem aMl:tab 51=some (.code x51):=rfl
theorem aMm:tab 53=some (.code x53):=rfl
theorem aMn:tab 54=some (.code x54):=rfl
theorem aA6:tab 55=some (.code x55):=rfl
theorem aMo:tab 56=some (.code x56):=rfl
theorem aMp:tab 57=some (.code x57):=rfl
theorem aMq:tab 58=some (.code x58):=rfl
theorem aMr:tab 59=some (.code x59):=rfl
theorem aMs:tab 60=some (.code x60):=rfl
theorem aMt:tab 61=some (.code x61):=rfl
theorem aMu:tab 62=some (.code x62):=rfl
theorem aMv:tab 63=some (.code x63):=rfl
theorem aMw:tab 64=some (.prim false (fL 1)):=rfl
theorem aMx:tab 66=some (.code x66):=rfl
theorem aMy:tab 67=some (.code x67):=rfl
theorem aMz:tab 68=some (.code x68):=rfl
theorem aMA:tab 69=some (.code x69):=rfl
theorem aMB:tab 70=some (.code x70):=rfl
theorem aMC:tab 71=some (.code x71):=rfl
theorem aMD:tab 72=some (.code x72):=rfl
theorem aME:tab 73=some (.code x73):=rfl
theorem aMF:tab 83=some (.code x83):=rfl
theorem aMG:tab 87=some (.code x87):=rfl
theorem aMH:tab 88=some (.code x88):=rfl
theorem aMI:tab 89=some (.code x89):=rfl
theorem aMJ:tab 91=some (.prim false (fL 3)):=rfl
theorem aMK:tab 92=some (.code x92):=rfl
theorem aML:tab 96=some (.code x96):=rfl
theorem aMM:tab 97=some (.code x97):=rfl
theorem aMN:tab 98=some (.code x98):=rfl
theorem aMO:tab 99=some (.code x99):=rfl
theorem aE1:tab 100=some (.code aJ5):=rfl
theorem aE2:tab 101=some (.code aJ6):=rfl
theorem aE3:tab 102=some (.code aJ7):=rfl
theorem aE4:tab 103=some (.code aJ8):=rfl
theorem aE5:tab 104=some (.code aJ9):=rfl
theorem aE6:tab 105=some (.code aKa):=rfl
theorem aE7:tab 106=some (.code aKb):=rfl
theorem aE8:tab 107=some (.code aKc):=rfl
theorem aE9:tab 108=some (.code aKd):=rfl
theorem aFa:tab 109=some (.code aKe):=rfl
theorem aFb:tab 110=some (.code aKf):=rfl
theorem aFc:tab 111=some (.code aKg):=rfl
theorem aFd:tab 112=some (.code aKh):=rfl
theorem aFe:tab 113=some (.code aKi):=rfl
theorem aFf:tab 114=some (.code aKj):=rfl
theorem W6:tab 115=some (.code aKk):=rfl
theorem aFg:tab 118=some (.code aKl):=rfl
theorem aFh:tab 119=some (.code aKm):=rfl
theorem aFi:tab 120=some (.code aKn):=rfl
theorem aFj:tab 121=some (.code aKo):=rfl
theorem W7:tab 122=some (.code aKp):=rfl
theorem aFk:tab 123=some (.code aKq):=rfl
theorem aFl:tab 124=some (.code aKr):=rfl
theorem aFm:tab 125=some (.code aKs):=rfl
theorem aFn:tab 126=some (.code aKt):=rfl
theorem W8:tab 127=some (.code aA4):=rfl
theorem aFo:tab 128=some (.code aKu):=rfl
theorem aFp:tab 131=some (.code aKv):=rfl
theorem aFq:tab 139=some (.code aKw):=rfl
theorem aFr:tab 148=some (.code aKx):=rfl
theorem W9:tab 149=some (.code aKy):=rfl
theorem aFs:tab 150=some (.code aKz):=rfl
theorem aFt:tab 151=some (.code aKA):=rfl
theorem aFu:tab 155=some (.code aKB):=rfl
theorem aFv:tab 156=some (.code aKC):=rfl
theorem aFw:tab 157=some (.code aKD):=rfl
theorem aFx:tab 158=some (.code aKE):=rfl
theorem aFy:tab 159=some (.code aKF):=rfl
theorem aFz:tab 160=some (.code aKG):=rfl
theorem aFA:tab 161=some (.code aKH):=rfl
theorem aFB:tab 162=some (.code aKI):=rfl
theorem aFC:tab 163=some (.code aKJ):=rfl
theorem aFD:tab 164=some (.code aKK):=rfl
theorem aFE:tab 165=some (.code aKL):=rfl
theorem aFF:tab 166=some (.code aKM):=rfl
theorem aFG:tab 167=some (.code aKN):=rfl
theorem aFH:tab 168=some (.code aKO):=rfl
theorem aFI:tab 169=some (.code aKP):=rfl
theorem aFJ:tab 170=some (.prim false (fL 3)):=rfl
theorem aFK:tab 171=some (.prim false (fL 3)):=rfl
theorem aFL:tab 172=some (.prim false (fL 5)):=rfl
theorem aFM:tab 173=some (.prim false (fL 1)):=rfl
theorem aFN:tab 176=some (.code aKQ):=rfl
theorem XA:tab 177=some (.code aKR):=rfl
theorem aFO:tab 178=some (.code aKS):=rfl
theorem aFP:tab 179=some (.code aKT):=rfl
theorem aFQ:tab 180=some (.code aKU):=rfl
theorem aFR:tab 181=some (.code aKV):=rfl
theorem aFS:tab 182=some (.code aKW):=rfl
theorem XB:tab 183=some (.code aKX):=rfl
theorem aFT:tab 184=some (.code aKY):=rfl
theorem aFU:tab 185=some (.code aKZ):=rfl
theorem aFV:tab 186=some (.code aK0):=rfl
theorem aFW:tab 187=some (.code aK1):=rfl
theorem aFX:tab 188=some (.code aK2):=rfl
theorem aFY:tab 189=some (.code aK3):=rfl
theorem aFZ:tab 190=some (.code aK4):=rfl
theorem aF0:tab 192=some (.code aK5):=rfl
theorem aF1:tab 194=some (.code aK6):=rfl
theorem aF2:tab 203=some (.code aK7):=rfl
theorem aF3:tab 205=some (.code aK8):=rfl
theorem aF4:tab 206=some (.code aK9):=rfl
theorem aF5:tab 207=some (.code aLa):=rfl
theorem aF6:tab 208=some (.code aLb):=rfl
theorem aF7:tab 209=some (.code aLc):=rfl
theorem aF8:tab 210=some (.code aLd):=rfl
theorem aF9:tab 211=some (.code aLe):=rfl
theorem aGa:tab 212=some (.code aLf):=rfl
theorem aGb:tab 214=some (.code aLg):=rfl
theorem aGc:tab 215=some (.code aLh):=rfl
theorem aGd:tab 216=some (.code aLi):=rfl
theorem aGe:tab 217=some (.code aLj):=rfl
theorem aGf:tab 218=some (.code aLk):=rfl
theorem PR:tab 219=some (.code Y7):=rfl
theorem XC:tab 220=some (.code aLl):=rfl
theorem aGg:tab 221=some (.code aLm):=rfl
theorem aGh:tab 222=some (.code aLn):=rfl
theorem aGi:tab 223=some (.code aLo):=rfl
theorem aGj:tab 224=some (.code aLp):=rfl
theorem aGk:tab 225=some (.code aLq):=rfl
theorem aGl:tab 226=some (.code aLr):=rfl
theorem aGm:tab 227=some (.code aLs):=rfl
theorem aPM:tab 228=some (.code aLt):=rfl
theorem aPN:tab 229=some (.code aLu):=rfl
theorem aPO:tab 230=some (.code aLv):=rfl
theorem aPP:tab 231=some (.code aLw):=rfl
theorem aPQ:tab 232=some (.code aLx):=rfl
theorem aPR:tab 233=some (.code aLy):=rfl
theorem aPS:tab 234=some (.code aLz):=rfl
theorem aGn:tab 235=some (.code aLA):=rfl
theorem aGo:tab 236=some (.code aLB):=rfl
theorem aGp:tab 237=some (.code aLC):=rfl
theorem aGq:tab 238=some (.code aLD):=rfl
theorem aGr:tab 257=some (.code aLE):=rfl
theorem aGs:tab 258=some (.code aEu):=rfl
theorem aGt:tab 259=some (.code aEw):=rfl
theorem aGu:tab 260=some (.code aLF):=rfl
theorem aGv:tab 261=some (.code aLG):=rfl
theorem aGw:tab 262=some (.code aLH):=rfl
theorem aGx:tab 263=some (.code aLI):=rfl
theorem aGy:tab 264=some (.code aLJ):=rfl
theorem XD:tab 265=some (.code aLK):=rfl
theorem aGz:tab 266=some (.code aLL):=rfl
theorem aGA:tab 267=some (.code aLM):=rfl
theorem XE:tab 268=some (.code aA5):=rfl
theorem aGB:tab 269=some (.code aLN):=rfl
theorem aPT:tab 270=some (.code aLO):=rfl
theorem aPU:tab 271=some (.code aLP):=rfl
theorem aPV:tab 272=some (.code aLQ):=rfl
theorem aPW:tab 273=some (.code aLR):=rfl
theorem aPX:tab 274=some (.code aLS):=rfl
theorem aGC:tab 275=some (.prim false EP):=rfl
theorem aGD:tab 285=some (.code aLT):=rfl
theorem aGE:tab 286=some (.code aEO):=rfl
theorem aGF:tab 287=some (.code aLU):=rfl
theorem aGG:tab 288=some (.code aLV):=rfl
theorem aGH:tab 289=some (.code aLW):=rfl
theorem aGI:tab 290=some (.prim false (fL 1)):=rfl
theorem aGJ:tab 291=some (.code aLX):=rfl
theorem aPY:tab 292=some (.code aLY):=rfl
end Go.Proofs.YtfejhjllooomlaaGreat
