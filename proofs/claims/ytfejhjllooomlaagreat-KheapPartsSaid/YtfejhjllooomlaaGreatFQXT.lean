/- The table of the seat's functions. Printed by a program. -/
import Derived.Test.YtfejhjllooomlaaGreatFQX1
import Derived.Test.YtfejhjllooomlaaGreatChecked
set_option maxRecDepth 100000
namespace Go.Proofs.YtfejhjllooomlaaGreat
open Go.Vm
theorem lW:Go.Proofs.Tryz.prog.follows .mixedOrders=true:=Go.Proofs.Tryz.checked.mixed
theorem aJ9:A0 Go.Proofs.Tryz.prog 64 (.prim false (fD 1)):=⟨rfl,nL lW (zero:=[.int .i64 0]) (by decide+kernel)⟩
theorem aKa:A0 Go.Proofs.Tryz.prog 91 (.prim false (fD 3)):=⟨rfl,nL lW (zero:=[.int .i64 0,.int .i64 0,.int .i64 0]) (by decide+kernel)⟩
theorem aDj:A0 Go.Proofs.Tryz.prog 170 (.prim false (fD 3)):=⟨rfl,nL lW (zero:=[.int .i64 0,.int .i64 0,.int .i64 0]) (by decide+kernel)⟩
theorem aDk:A0 Go.Proofs.Tryz.prog 171 (.prim false (fD 3)):=⟨rfl,nL lW (zero:=[.int .i64 0,.int .i64 0,.int .i64 0]) (by decide+kernel)⟩
theorem aDl:A0 Go.Proofs.Tryz.prog 172 (.prim false (fD 5)):=⟨rfl,nL lW (zero:=[.int .i64 0,.int .i64 0,.int .i64 0,.int .i64 0,.int .i64 0]) (by decide+kernel)⟩
theorem aDm:A0 Go.Proofs.Tryz.prog 173 (.prim false (fD 1)):=⟨rfl,nL lW (zero:=[.bool false]) (by decide+kernel)⟩
theorem aDn:A0 Go.Proofs.Tryz.prog 275 (.prim false DI):=⟨rfl,S0 Go.Proofs.Tryz.func275 (by kernel_rfl) (by kernel_rfl) (by kernel_rfl) (by kernel_rfl)⟩
theorem aDo:A0 Go.Proofs.Tryz.prog 290 (.prim false (fD 1)):=⟨rfl,nL lW (zero:=[.int .i64 0]) (by decide+kernel)⟩
noncomputable def aMp:TT:= .node 150 (.node 83 (.node 52 (.node 19 (.node 14 (.node 11 (.node 10 (.leaf 3 (.code x3)) (.leaf 10 (.code x10))) (.node 12 (.leaf 11 (.code x11)) (.node 13 (.leaf 12 (.code x12)) (.leaf 13 (.code x13))))) (.node 16 (.node 15 (.leaf 14 (.code x14)) (.leaf 15 (.code x15))) (.node 17 (.leaf 16 (.code x16)) (.node 18 (.leaf 17 (.code x17)) (.leaf 18 (.code x18)))))) (.node 30 (.node 21 (.node 20 (.leaf 19 (.code x19)) (.leaf 20 (.code x20))) (.node 23 (.leaf 21 (.code x21)) (.node 26 (.leaf 23 (.code x23)) (.leaf 26 (.code x26))))) (.node 49 (.node 40 (.leaf 30 (.code x30)) (.node 44 (.leaf 40 (.code x40)) (.leaf 44 (.code x44)))) (.node 50 (.leaf 49 (.code x49)) (.node 51 (.leaf 50 (.code x50)) (.leaf 51 (.code x51))))))) (.node 62 (.node 57 (.node 54 (.node 53 (.leaf 52 (.code x52)) (.leaf 53 (.code x53))) (.node 55 (.leaf 54 (.code x54)) (.node 56 (.leaf 55 (.code x55)) (.leaf 56 (.code x56))))) (.node 59 (.node 58 (.leaf 57 (.code x57)) (.leaf 58 (.code x58))) (.node 60 (.leaf 59 (.code x59)) (.node 61 (.leaf 60 (.code x60)) (.leaf 61 (.code x61)))))) (.node 67 (.node 64 (.node 63 (.leaf 62 (.code x62)) (.leaf 63 (.code x63))) (.node 65 (.leaf 64 (.prim false (fD 1))) (.node 66 (.leaf 65 (.code x65)) (.leaf 66 (.code x66))))) (.node 70 (.node 68 (.leaf 67 (.code x67)) (.node 69 (.leaf 68 (.code x68)) (.leaf 69 (.code x69)))) (.node 72 (.leaf 70 (.code x70)) (.node 73 (.leaf 72 (.code x72)) (.leaf 73 (.code x73)))))))) (.node 109 (.node 98 (.node 92 (.node 88 (.node 87 (.leaf 83 (.code x83)) (.leaf 87 (.code x87))) (.node 89 (.leaf 88 (.code x88)) (.node 91 (.leaf 89 (.code x89)) (.leaf 91 (.prim false (fD 3)))))) (.node 95 (.node 94 (.leaf 92 (.code x92)) (.leaf 94 (.code x94))) (.node 96 (.leaf 95 (.code x95)) (.node 97 (.leaf 96 (.code x96)) (.leaf 97 (.code x97)))))) (.node 103 (.node 100 (.node 99 (.leaf 98 (.code x98)) (.leaf 99 (.code x99))) (.node 101 (.leaf 100 (.code aIs)) (.node 102 (.leaf 101 (.code aIt)) (.leaf 102 (.code aIu))))) (.node 106 (.node 104 (.leaf 103 (.code aIv)) (.node 105 (.leaf 104 (.code aIw)) (.leaf 105 (.code aIx)))) (.node 107 (.leaf 106 (.code aIy)) (.node 108 (.leaf 107 (.code aIz)) (.leaf 108 (.code aIA))))))) (.node 120 (.node 114 (.node 111 (.node 110 (.leaf 109 (.code aIB)) (.leaf 110 (.code aIC))) (.node 112 (.leaf 111 (.code aID)) (.node 113 (.leaf 112 (.code aIE)) (.leaf 113 (.code aIF))))) (.node 117 (.node 115 (.leaf 114 (.code aIG)) (.node 116 (.leaf 115 (.code aIH)) (.leaf 116 (.code aII)))) (.node 118 (.leaf 117 (.code aIJ)) (.node 119 (.leaf 118 (.code aIK)) (.leaf 119 (.code aIL)))))) (.node 125 (.node 122 (.node 121 (.leaf 120 (.code aIM)) (.leaf 121 (.code aIN))) (.node 123 (.leaf 122 (.code aIO)) (.node 124 (.leaf 123 (.code aIP)) (.leaf 124 (.code aIQ))))) (.node 139 (.node 128 (.leaf 125 (.code aIR)) (.node 131 (.leaf 128 (.code aIS)) (.leaf 131 (.code aIT)))) (.node 148 (.leaf 139 (.code aIU)) (.node 149 (.leaf 148 (.code aIV)) (.leaf 149 (.code aIW))))))))) (.node 207 (.node 173 (.node 162 (.node 157 (.node 154 (.node 151 (.leaf 150 (.code aIX)) (.leaf 151 (.code aIY))) (.node 155 (.leaf 154 (.code aIZ)) (.node 156 (.leaf 155 (.code aI0)) (.leaf 156 (.code aI1))))) (.node 159 (.node 158 (.leaf 157 (.code aI2)) (.leaf 158 (.code aI3))) (.node 160 (.leaf 159 (.code aI4)) (.node 161 (.leaf 160 (.code aI5)) (.leaf 161 (.code aI6)))))) (.node 167 (.node 164 (.node 163 (.leaf 162 (.code aI7)) (.leaf 163 (.code aI8))) (.node 165 (.leaf 164 (.code aI9)) (.node 166 (.leaf 165 (.code aJa)) (.leaf 166 (.code aJb))))) (.node 170 (.node 168 (.leaf 167 (.code aJc)) (.node 169 (.leaf 168 (.code aJd)) (.leaf 169 (.code aJe)))) (.node 171 (.leaf 170 (.prim false (fD 3))) (.node 172 (.leaf 171 (.prim false (fD 3))) (.leaf 172 (.prim false (fD 5)))))))) (.node 183 (.node 178 (.node 175 (.node 174 (.leaf 173 (.prim false (fD 1))) (.leaf 174 (.code aJf))) (.node 176 (.leaf 175 (.code aJg)) (.node 177 (.leaf 176 (.code aJh)) (.leaf 177 (.code aJi))))) (.node 180 (.node 179 (.leaf 178 (.code aJj)) (.leaf 179 (.code aJk))) (.node 181 (.leaf 180 (.code aJl)) (.node 182 (.leaf 181 (.code aJm)) (.leaf 182 (.code aJn)))))) (.node 190 (.node 185 (.node 184 (.leaf 183 (.code aJo)) (.leaf 184 (.code aJp))) (.node 186 (.leaf 185 (.code aJq)) (.node 189 (.leaf 186 (.code aJr)) (.leaf 189 (.code aJs))))) (.node 203 (.node 192 (.leaf 190 (.code aJt)) (.node 194 (.leaf 192 (.code aJu)) (.leaf 194 (.code aJv)))) (.node 205 (.leaf 203 (.code aJw)) (.node 206 (.leaf 205 (.code aJx)) (.leaf 206 (.code aJy)))))))) (.node 238 (.node 217 (.node 212 (.node 209 (.node 208 (.leaf 207 (.code aJz)) (.leaf 208 (.code aJA))) (.node 210 (.leaf 209 (.code aJB)) (.node 211 (.leaf 210 (.code aJC)) (.leaf 211 (.code aJD))))) (.node 214 (.node 213 (.leaf 212 (.code aJE)) (.leaf 213 (.code aJF))) (.node 215 (.leaf 214 (.code aJG)) (.node 216 (.leaf 215 (.code aJH)) (.leaf 216 (.code aJI)))))) (.node 222 (.node 219 (.node 218 (.leaf 217 (.code aJJ)) (.leaf 218 (.code aJK))) (.node 220 (.leaf 219 (.code XJ)) (.node 221 (.leaf 220 (.code aJL)) (.leaf 221 (.code aJM))))) (.node 225 (.node 223 (.leaf 222 (.code aJN)) (.node 224 (.leaf 223 (.code aJO)) (.leaf 224 (.code aJP)))) (.node 226 (.leaf 225 (.code aJQ)) (.node 237 (.leaf 226 (.code aJR)) (.leaf 237 (.code aJS))))))) (.node 267 (.node 261 (.node 258 (.node 257 (.leaf 238 (.code aJT)) (.leaf 257 (.code aJU))) (.node 259 (.leaf 258 (.code aCY)) (.node 260 (.leaf 259 (.code aC0)) (.leaf 260 (.code aJV))))) (.node 264 (.node 262 (.leaf 261 (.code aJW)) (.node 263 (.leaf 262 (.code aJX)) (.leaf 263 (.code aJY)))) (.node 265 (.leaf 264 (.code aJZ)) (.node 266 (.leaf 265 (.code aJ0)) (.leaf 266 (.code aJ1)))))) (.node 286 (.node 269 (.node 268 (.leaf 267 (.code aJ2)) (.leaf 268 (.code ZX))) (.node 275 (.leaf 269 (.code aJ3)) (.node 285 (.leaf 275 (.prim false DI)) (.leaf 285 (.code aJ4))))) (.node 289 (.node 287 (.leaf 286 (.code aDd)) (.node 288 (.leaf 287 (.code aJ5)) (.leaf 288 (.code aJ6)))) (.node 290 (.leaf 289 (.code aJ7)) (.node 291 (.leaf 290 (.prim false (fD 1))) (.leaf 291 (.code aJ8)))))))))
theorem VC:aMp.All (A0 Go.Proofs.Tryz.prog):=⟨⟨⟨⟨⟨⟨⟨aMo,aHD⟩,⟨aHE,⟨aHF,aHG⟩⟩⟩,⟨⟨aHH,aHI⟩,⟨aHJ,⟨aHK,aHL⟩⟩⟩⟩,⟨⟨⟨aHM,aHN⟩,⟨aHO,⟨aHP,aHQ⟩⟩⟩,⟨⟨aHR,⟨aHS,aHT⟩⟩,⟨aHU,⟨aHV,aHW⟩⟩⟩⟩⟩,⟨⟨⟨⟨aHX,aHY⟩,⟨aHZ,⟨aH0,aH1⟩⟩⟩,⟨⟨aH2,aH3⟩,⟨aH4,⟨aH5,aH6⟩⟩⟩⟩,⟨⟨⟨aH7,aH8⟩,⟨aJ9,⟨aH9,aIa⟩⟩⟩,⟨⟨aIb,⟨aIc,aId⟩⟩,⟨aIe,⟨aIf,aIg⟩⟩⟩⟩⟩⟩,⟨⟨⟨⟨⟨aIh,aIi⟩,⟨aIj,⟨aIk,aKa⟩⟩⟩,⟨⟨aIl,aIm⟩,⟨aIn,⟨aIo,aIp⟩⟩⟩⟩,⟨⟨⟨aIq,aIr⟩,⟨aBu,⟨aBv,aBw⟩⟩⟩,⟨⟨aBx,⟨aBy,aBz⟩⟩,⟨aBA,⟨aBB,aBC⟩⟩⟩⟩⟩,⟨⟨⟨⟨aBD,aBE⟩,⟨aBF,⟨aBG,aBH⟩⟩⟩,⟨⟨aBI,⟨aBJ,aBK⟩⟩,⟨aBL,⟨aBM,aBN⟩⟩⟩⟩,⟨⟨⟨aBO,aBP⟩,⟨aBQ,⟨aBR,aBS⟩⟩⟩,⟨⟨aBT,⟨aBU,aBV⟩⟩,⟨aBW,⟨aBX,aBY⟩⟩⟩⟩⟩⟩⟩,⟨⟨⟨⟨⟨⟨aBZ,aB0⟩,⟨aB1,⟨aB2,aB3⟩⟩⟩,⟨⟨aB4,aB5⟩,⟨aB6,⟨aB7,aB8⟩⟩⟩⟩,⟨⟨⟨aB9,aCa⟩,⟨aCb,⟨aCc,aCd⟩⟩⟩,⟨⟨aCe,⟨aCf,aCg⟩⟩,⟨aDj,⟨aDk,aDl⟩⟩⟩⟩⟩,⟨⟨⟨⟨aDm,aCh⟩,⟨aCi,⟨aCj,aCk⟩⟩⟩,⟨⟨aCl,aCm⟩,⟨aCn,⟨aCo,aCp⟩⟩⟩⟩,⟨⟨⟨aCq,aCr⟩,⟨aCs,⟨aCt,aCu⟩⟩⟩,⟨⟨aCv,⟨aCw,aCx⟩⟩,⟨aCy,⟨aCz,aCA⟩⟩⟩⟩⟩⟩,⟨⟨⟨⟨⟨aCB,aCC⟩,⟨aCD,⟨aCE,aCF⟩⟩⟩,⟨⟨aCG,aCH⟩,⟨aCI,⟨aCJ,aCK⟩⟩⟩⟩,⟨⟨⟨aCL,aCM⟩,⟨aCN,⟨aCO,aCP⟩⟩⟩,⟨⟨aCQ,⟨aCR,aCS⟩⟩,⟨aCT,⟨aCU,aCV⟩⟩⟩⟩⟩,⟨⟨⟨⟨aCW,aCX⟩,⟨aCZ,⟨aC1,aC2⟩⟩⟩,⟨⟨aC3,⟨aC4,aC5⟩⟩,⟨aC6,⟨aC7,aC8⟩⟩⟩⟩,⟨⟨⟨aC9,aDa⟩,⟨aDb,⟨aDn,aDc⟩⟩⟩,⟨⟨aDe,⟨aDf,aDg⟩⟩,⟨aDh,⟨aDo,aDi⟩⟩⟩⟩⟩⟩⟩⟩
noncomputable def bA:nK:=aMp.get
theorem aHd:bA 3=some (.code x3):=rfl
theorem aKb:bA 10=some (.code x10):=rfl
theorem aKc:bA 11=some (.code x11):=rfl
theorem aKd:bA 12=some (.code x12):=rfl
theorem aKe:bA 13=some (.code x13):=rfl
theorem aKf:bA 14=some (.code x14):=rfl
theorem aKg:bA 15=some (.code x15):=rfl
theorem aKh:bA 16=some (.code x16):=rfl
theorem aKi:bA 17=some (.code x17):=rfl
theorem aKj:bA 18=some (.code x18):=rfl
theorem aKk:bA 19=some (.code x19):=rfl
theorem aKl:bA 20=some (.code x20):=rfl
theorem aKm:bA 21=some (.code x21):=rfl
theorem aKn:bA 23=some (.code x23):=rfl
theorem aKo:bA 26=some (.code x26):=rfl
theorem aKp:bA 30=some (.code x30):=rfl
theorem aKq:bA 40=some (.code x40):=rfl
theorem aKr:bA 44=some (.code x44):=rfl
theorem aKs:bA 49=some (.code x49):=rfl
theorem aKt:bA 50=some (.code x50):=rfl
theorem aKu:bA 51=some (.code x51):=rfl
theorem aKv:bA 52=some (.code x52):=rfl
theorem aKw:bA 53=some (.code x53):=rfl
theorem aKx:bA 54=some (.code x54):=rfl
theorem ZY:bA 55=some (.code x55):=rfl
theorem aKy:bA 56=some (.code x56):=rfl
theorem aKz:bA 57=some (.code x57):=rfl
theorem aKA:bA 58=some (.code x58):=rfl
theorem aKB:bA 59=some (.code x59):=rfl
theorem aKC:bA 60=some (.code x60):=rfl
theorem aKD:bA 61=some (.code x61):=rfl
theorem aKE:bA 62=some (.code x62):=rfl
theorem aKF:bA 63=some (.code x63):=rfl
theorem aKG:bA 64=some (.prim false (fD 1)):=rfl
theorem aKH:bA 65=some (.code x65):=rfl
theorem aKI:bA 66=some (.code x66):=rfl
theorem aKJ:bA 67=some (.code x67):=rfl
theorem aKK:bA 68=some (.code x68):=rfl
theorem aKL:bA 69=some (.code x69):=rfl
theorem aKM:bA 70=some (.code x70):=rfl
theorem aKN:bA 72=some (.code x72):=rfl
theorem aKO:bA 73=some (.code x73):=rfl
theorem aKP:bA 83=some (.code x83):=rfl
theorem aKQ:bA 87=some (.code x87):=rfl
theorem aKR:bA 88=some (.code x88):=rfl
theorem aKS:bA 89=some (.code x89):=rfl
theorem aKT:bA 91=some (.prim false (fD 3)):=rfl
theorem aKU:bA 92=some (.code x92):=rfl
theorem aKV:bA 94=some (.code x94):=rfl
theorem aKW:bA 95=some (.code x95):=rfl
theorem aKX:bA 96=some (.code x96):=rfl
theorem aKY:bA 97=some (.code x97):=rfl
theorem aKZ:bA 98=some (.code x98):=rfl
theorem aK0:bA 99=some (.code x99):=rfl
theorem aDp:bA 100=some (.code aIs):=rfl
theorem aDq:bA 101=some (.code aIt):=rfl
theorem aDr:bA 102=some (.code aIu):=rfl
theorem aDs:bA 103=some (.code aIv):=rfl
theorem aDt:bA 104=some (.code aIw):=rfl
theorem aDu:bA 105=some (.code aIx):=rfl
theorem aDv:bA 106=some (.code aIy):=rfl
theorem aDw:bA 107=some (.code aIz):=rfl
theorem aDx:bA 108=some (.code aIA):=rfl
theorem aDy:bA 109=some (.code aIB):=rfl
theorem aDz:bA 110=some (.code aIC):=rfl
theorem aDA:bA 111=some (.code aID):=rfl
theorem aDB:bA 112=some (.code aIE):=rfl
theorem aDC:bA 113=some (.code aIF):=rfl
theorem aDD:bA 114=some (.code aIG):=rfl
theorem VD:bA 115=some (.code aIH):=rfl
theorem aDE:bA 116=some (.code aII):=rfl
theorem aDF:bA 117=some (.code aIJ):=rfl
theorem aDG:bA 118=some (.code aIK):=rfl
theorem aDH:bA 119=some (.code aIL):=rfl
theorem aDI:bA 120=some (.code aIM):=rfl
theorem aDJ:bA 121=some (.code aIN):=rfl
theorem VE:bA 122=some (.code aIO):=rfl
theorem aDK:bA 123=some (.code aIP):=rfl
theorem aDL:bA 124=some (.code aIQ):=rfl
theorem aDM:bA 125=some (.code aIR):=rfl
theorem aDN:bA 128=some (.code aIS):=rfl
theorem aDO:bA 131=some (.code aIT):=rfl
theorem aDP:bA 139=some (.code aIU):=rfl
theorem aDQ:bA 148=some (.code aIV):=rfl
theorem VF:bA 149=some (.code aIW):=rfl
theorem aDR:bA 150=some (.code aIX):=rfl
theorem aDS:bA 151=some (.code aIY):=rfl
theorem aDT:bA 154=some (.code aIZ):=rfl
theorem aDU:bA 155=some (.code aI0):=rfl
theorem aDV:bA 156=some (.code aI1):=rfl
theorem aDW:bA 157=some (.code aI2):=rfl
theorem aDX:bA 158=some (.code aI3):=rfl
theorem aDY:bA 159=some (.code aI4):=rfl
theorem aDZ:bA 160=some (.code aI5):=rfl
theorem aD0:bA 161=some (.code aI6):=rfl
theorem aD1:bA 162=some (.code aI7):=rfl
theorem aD2:bA 163=some (.code aI8):=rfl
theorem aD3:bA 164=some (.code aI9):=rfl
theorem aD4:bA 165=some (.code aJa):=rfl
theorem aD5:bA 166=some (.code aJb):=rfl
theorem aD6:bA 167=some (.code aJc):=rfl
theorem aD7:bA 168=some (.code aJd):=rfl
theorem aD8:bA 169=some (.code aJe):=rfl
theorem aD9:bA 170=some (.prim false (fD 3)):=rfl
theorem aEa:bA 171=some (.prim false (fD 3)):=rfl
theorem aEb:bA 172=some (.prim false (fD 5)):=rfl
theorem aEc:bA 173=some (.prim false (fD 1)):=rfl
theorem aEd:bA 174=some (.code aJf):=rfl
theorem aEe:bA 175=some (.code aJg):=rfl
theorem aEf:bA 176=some (.code aJh):=rfl
theorem VG:bA 177=some (.code aJi):=rfl
theorem aEg:bA 178=some (.code aJj):=rfl
theorem aEh:bA 179=some (.code aJk):=rfl
theorem aEi:bA 180=some (.code aJl):=rfl
theorem aEj:bA 181=some (.code aJm):=rfl
theorem aEk:bA 182=some (.code aJn):=rfl
theorem VH:bA 183=some (.code aJo):=rfl
theorem aEl:bA 184=some (.code aJp):=rfl
theorem aEm:bA 185=some (.code aJq):=rfl
theorem aEn:bA 186=some (.code aJr):=rfl
theorem aEo:bA 189=some (.code aJs):=rfl
theorem aEp:bA 190=some (.code aJt):=rfl
theorem aEq:bA 192=some (.code aJu):=rfl
theorem aEr:bA 194=some (.code aJv):=rfl
theorem aEs:bA 203=some (.code aJw):=rfl
theorem aEt:bA 205=some (.code aJx):=rfl
theorem aEu:bA 206=some (.code aJy):=rfl
theorem aEv:bA 207=some (.code aJz):=rfl
theorem aEw:bA 208=some (.code aJA):=rfl
theorem aEx:bA 209=some (.code aJB):=rfl
theorem aEy:bA 210=some (.code aJC):=rfl
theorem aEz:bA 211=some (.code aJD):=rfl
theorem aEA:bA 212=some (.code aJE):=rfl
theorem aEB:bA 213=some (.code aJF):=rfl
theorem aEC:bA 214=some (.code aJG):=rfl
theorem aED:bA 215=some (.code aJH):=rfl
theorem aEE:bA 216=some (.code aJI):=rfl
theorem aEF:bA 217=some (.code aJJ):=rfl
theorem aEG:bA 218=some (.code aJK):=rfl
theorem N7:bA 219=some (.code XJ):=rfl
theorem VI:bA 220=some (.code aJL):=rfl
theorem aEH:bA 221=some (.code aJM):=rfl
theorem aEI:bA 222=some (.code aJN):=rfl
theorem aEJ:bA 223=some (.code aJO):=rfl
theorem aEK:bA 224=some (.code aJP):=rfl
theorem aEL:bA 225=some (.code aJQ):=rfl
theorem aEM:bA 226=some (.code aJR):=rfl
theorem aEN:bA 237=some (.code aJS):=rfl
theorem aEO:bA 238=some (.code aJT):=rfl
theorem aEP:bA 257=some (.code aJU):=rfl
theorem aEQ:bA 258=some (.code aCY):=rfl
theorem aER:bA 259=some (.code aC0):=rfl
theorem aES:bA 260=some (.code aJV):=rfl
theorem aET:bA 261=some (.code aJW):=rfl
theorem aEU:bA 262=some (.code aJX):=rfl
theorem aEV:bA 263=some (.code aJY):=rfl
theorem aEW:bA 264=some (.code aJZ):=rfl
theorem VJ:bA 265=some (.code aJ0):=rfl
theorem aEX:bA 266=some (.code aJ1):=rfl
theorem aEY:bA 267=some (.code aJ2):=rfl
theorem VK:bA 268=some (.code ZX):=rfl
theorem aEZ:bA 269=some (.code aJ3):=rfl
theorem aE0:bA 275=some (.prim false DI):=rfl
theorem aE1:bA 285=some (.code aJ4):=rfl
theorem aE2:bA 286=some (.code aDd):=rfl
theorem aE3:bA 287=some (.code aJ5):=rfl
theorem aE4:bA 288=some (.code aJ6):=rfl
theorem aE5:bA 289=some (.code aJ7):=rfl
theorem aE6:bA 290=some (.prim false (fD 1)):=rfl
theorem aE7:bA 291=some (.code aJ8):=rfl
end Go.Proofs.YtfejhjllooomlaaGreat
