/- The table of the seat's functions. Printed by a program. -/
import Derived.Test.YtmlghnibpjlchaaGreatAQX1
import Derived.Test.YtmlghnibpjlchaaGreatAQX2
import Derived.Test.YtmlghnibpjlchaaGreatChecked
set_option maxRecDepth 100000
namespace Go.Proofs.YtmlghnibpjlchaaGreat
open Go.Vm
theorem lW:Go.Proofs.Tryz.prog.follows .mixedOrders=true:=Go.Proofs.Tryz.checked.mixed
theorem aJ7:AV Go.Proofs.Tryz.prog 37 (.prim false (eY 1)):=⟨rfl,nN lW (zero:=[.int .i64 0]) (by decide+kernel)⟩
theorem aJ8:AV Go.Proofs.Tryz.prog 94 (.prim false (eY 3)):=⟨rfl,nN lW (zero:=[.int .i64 0,.int .i64 0,.int .i64 0]) (by decide+kernel)⟩
theorem aDc:AV Go.Proofs.Tryz.prog 138 (.prim false (eY 3)):=⟨rfl,nN lW (zero:=[.int .i64 0,.int .i64 0,.int .i64 0]) (by decide+kernel)⟩
theorem aDd:AV Go.Proofs.Tryz.prog 139 (.prim false (eY 3)):=⟨rfl,nN lW (zero:=[.int .i64 0,.int .i64 0,.int .i64 0]) (by decide+kernel)⟩
theorem aDe:AV Go.Proofs.Tryz.prog 140 (.prim false (eY 5)):=⟨rfl,nN lW (zero:=[.int .i64 0,.int .i64 0,.int .i64 0,.int .i64 0,.int .i64 0]) (by decide+kernel)⟩
theorem aDf:AV Go.Proofs.Tryz.prog 141 (.prim false (eY 1)):=⟨rfl,nN lW (zero:=[.bool false]) (by decide+kernel)⟩
theorem aDg:AV Go.Proofs.Tryz.prog 225 (.prim false C4):=⟨rfl,R7 Go.Proofs.Tryz.func225 (by kernel_rfl) (by kernel_rfl) (by kernel_rfl) (by kernel_rfl)⟩
theorem aDh:AV Go.Proofs.Tryz.prog 241 (.prim false (eY 1)):=⟨rfl,nN lW (zero:=[.int .i64 0]) (by decide+kernel)⟩
def aMC:TT:= .node 141 (.node 82 (.node 47 (.node 31 (.node 11 (.node 8 (.node 7 (.leaf 3 (.code x3)) (.leaf 7 (.code x7))) (.node 9 (.leaf 8 (.code x8)) (.node 10 (.leaf 9 (.code x9)) (.leaf 10 (.code x10))))) (.node 16 (.node 12 (.leaf 11 (.code x11)) (.node 13 (.leaf 12 (.code x12)) (.leaf 13 (.code x13)))) (.node 25 (.leaf 16 (.code x16)) (.node 26 (.leaf 25 (.code x25)) (.leaf 26 (.code x26)))))) (.node 37 (.node 34 (.node 32 (.leaf 31 (.code x31)) (.node 33 (.leaf 32 (.code x32)) (.leaf 33 (.code x33)))) (.node 35 (.leaf 34 (.code x34)) (.node 36 (.leaf 35 (.code x35)) (.leaf 36 (.code x36))))) (.node 40 (.node 38 (.leaf 37 (.prim false (eY 1))) (.node 39 (.leaf 38 (.code x38)) (.leaf 39 (.code x39)))) (.node 41 (.leaf 40 (.code x40)) (.node 43 (.leaf 41 (.code x41)) (.leaf 43 (.code x43))))))) (.node 65 (.node 59 (.node 54 (.node 52 (.leaf 47 (.code x47)) (.node 53 (.leaf 52 (.code x52)) (.leaf 53 (.code x53)))) (.node 55 (.leaf 54 (.code x54)) (.node 57 (.leaf 55 (.code x55)) (.leaf 57 (.code x57))))) (.node 62 (.node 60 (.leaf 59 (.code x59)) (.node 61 (.leaf 60 (.code x60)) (.leaf 61 (.code x61)))) (.node 63 (.leaf 62 (.code x62)) (.node 64 (.leaf 63 (.code x63)) (.leaf 64 (.code x64)))))) (.node 76 (.node 73 (.node 71 (.leaf 65 (.code x65)) (.node 72 (.leaf 71 (.code x71)) (.leaf 72 (.code x72)))) (.node 74 (.leaf 73 (.code x73)) (.node 75 (.leaf 74 (.code x74)) (.leaf 75 (.code x75))))) (.node 79 (.node 77 (.leaf 76 (.code x76)) (.node 78 (.leaf 77 (.code x77)) (.leaf 78 (.code x78)))) (.node 80 (.leaf 79 (.code x79)) (.node 81 (.leaf 80 (.code x80)) (.leaf 81 (.code x81)))))))) (.node 114 (.node 94 (.node 87 (.node 84 (.node 83 (.leaf 82 (.code x82)) (.leaf 83 (.code x83))) (.node 85 (.leaf 84 (.code x84)) (.node 86 (.leaf 85 (.code x85)) (.leaf 86 (.code x86))))) (.node 90 (.node 88 (.leaf 87 (.code x87)) (.node 89 (.leaf 88 (.code x88)) (.leaf 89 (.code x89)))) (.node 91 (.leaf 90 (.code x90)) (.node 92 (.leaf 91 (.code x91)) (.leaf 92 (.code x92)))))) (.node 108 (.node 104 (.node 96 (.leaf 94 (.prim false (eY 3))) (.node 97 (.leaf 96 (.code x96)) (.leaf 97 (.code x97)))) (.node 106 (.leaf 104 (.code aIf)) (.node 107 (.leaf 106 (.code aIg)) (.leaf 107 (.code aIh))))) (.node 111 (.node 109 (.leaf 108 (.code aIi)) (.node 110 (.leaf 109 (.code aIj)) (.leaf 110 (.code aIk)))) (.node 112 (.leaf 111 (.code aIl)) (.node 113 (.leaf 112 (.code aIm)) (.leaf 113 (.code aIn))))))) (.node 127 (.node 121 (.node 118 (.node 116 (.leaf 114 (.code aIo)) (.node 117 (.leaf 116 (.code aIp)) (.leaf 117 (.code aIq)))) (.node 119 (.leaf 118 (.code aIr)) (.node 120 (.leaf 119 (.code aIs)) (.leaf 120 (.code aIt))))) (.node 124 (.node 122 (.leaf 121 (.code aIu)) (.node 123 (.leaf 122 (.code aIv)) (.leaf 123 (.code aIw)))) (.node 125 (.leaf 124 (.code aIx)) (.node 126 (.leaf 125 (.code aIy)) (.leaf 126 (.code aIz)))))) (.node 135 (.node 132 (.node 128 (.leaf 127 (.code aIA)) (.node 129 (.leaf 128 (.code aIB)) (.leaf 129 (.code aIC)))) (.node 133 (.leaf 132 (.code aID)) (.node 134 (.leaf 133 (.code aIE)) (.leaf 134 (.code aIF))))) (.node 138 (.node 136 (.leaf 135 (.code aIG)) (.node 137 (.leaf 136 (.code aIH)) (.leaf 137 (.code aII)))) (.node 139 (.leaf 138 (.prim false (eY 3))) (.node 140 (.leaf 139 (.prim false (eY 3))) (.leaf 140 (.prim false (eY 5)))))))))) (.node 194 (.node 168 (.node 152 (.node 146 (.node 143 (.node 142 (.leaf 141 (.prim false (eY 1))) (.leaf 142 (.code aIJ))) (.node 144 (.leaf 143 (.code aIK)) (.node 145 (.leaf 144 (.code aIL)) (.leaf 145 (.code aIM))))) (.node 149 (.node 147 (.leaf 146 (.code aIN)) (.node 148 (.leaf 147 (.code aIO)) (.leaf 148 (.code aIP)))) (.node 150 (.leaf 149 (.code aIQ)) (.node 151 (.leaf 150 (.code aIR)) (.leaf 151 (.code aIS)))))) (.node 161 (.node 158 (.node 153 (.leaf 152 (.code aIT)) (.node 157 (.leaf 153 (.code aIU)) (.leaf 157 (.code aIV)))) (.node 159 (.leaf 158 (.code aIW)) (.node 160 (.leaf 159 (.code aIX)) (.leaf 160 (.code aIY))))) (.node 164 (.node 162 (.leaf 161 (.code aIZ)) (.node 163 (.leaf 162 (.code aI0)) (.leaf 163 (.code aI1)))) (.node 166 (.leaf 164 (.code aI2)) (.node 167 (.leaf 166 (.code aI3)) (.leaf 167 (.code aI4))))))) (.node 180 (.node 174 (.node 171 (.node 169 (.leaf 168 (.code aI5)) (.node 170 (.leaf 169 (.code aI6)) (.leaf 170 (.code aI7)))) (.node 172 (.leaf 171 (.code aI8)) (.node 173 (.leaf 172 (.code aI9)) (.leaf 173 (.code aJa))))) (.node 177 (.node 175 (.leaf 174 (.code aJb)) (.node 176 (.leaf 175 (.code aJc)) (.leaf 176 (.code aJd)))) (.node 178 (.leaf 177 (.code aJe)) (.node 179 (.leaf 178 (.code aJf)) (.leaf 179 (.code aJg)))))) (.node 188 (.node 185 (.node 183 (.leaf 180 (.code aJh)) (.node 184 (.leaf 183 (.code aJi)) (.leaf 184 (.code aJj)))) (.node 186 (.leaf 185 (.code aJk)) (.node 187 (.leaf 186 (.code aJl)) (.leaf 187 (.code aJm))))) (.node 191 (.node 189 (.leaf 188 (.code aJn)) (.node 190 (.leaf 189 (.code aJo)) (.leaf 190 (.code aJp)))) (.node 192 (.leaf 191 (.code aJq)) (.node 193 (.leaf 192 (.code aJr)) (.leaf 193 (.code aJs)))))))) (.node 220 (.node 206 (.node 200 (.node 196 (.node 195 (.leaf 194 (.code aJt)) (.leaf 195 (.code aJu))) (.node 198 (.leaf 196 (.code aJv)) (.node 199 (.leaf 198 (.code aJw)) (.leaf 199 (.code aJx))))) (.node 203 (.node 201 (.leaf 200 (.code aJy)) (.node 202 (.leaf 201 (.code aJz)) (.leaf 202 (.code W8)))) (.node 204 (.leaf 203 (.code aJA)) (.node 205 (.leaf 204 (.code aJB)) (.leaf 205 (.code aJC)))))) (.node 213 (.node 210 (.node 207 (.leaf 206 (.code aJD)) (.node 208 (.leaf 207 (.code aJE)) (.leaf 208 (.code aJF)))) (.node 211 (.leaf 210 (.code aCE)) (.node 212 (.leaf 211 (.code aCG)) (.leaf 212 (.code aJG))))) (.node 216 (.node 214 (.leaf 213 (.code aJH)) (.node 215 (.leaf 214 (.code aJI)) (.leaf 215 (.code aJJ)))) (.node 218 (.leaf 216 (.code aJK)) (.node 219 (.leaf 218 (.code aJL)) (.leaf 219 (.code aJM))))))) (.node 233 (.node 227 (.node 223 (.node 221 (.leaf 220 (.code aJN)) (.node 222 (.leaf 221 (.code aJO)) (.leaf 222 (.code aJP)))) (.node 224 (.leaf 223 (.code aJQ)) (.node 225 (.leaf 224 (.code aJR)) (.leaf 225 (.prim false C4))))) (.node 230 (.node 228 (.leaf 227 (.code aJS)) (.node 229 (.leaf 228 (.code aJT)) (.leaf 229 (.code aJU)))) (.node 231 (.leaf 230 (.code aJV)) (.node 232 (.leaf 231 (.code ZJ)) (.leaf 232 (.code aJW)))))) (.node 240 (.node 236 (.node 234 (.leaf 233 (.code aC0)) (.node 235 (.leaf 234 (.code aJX)) (.leaf 235 (.code aJY)))) (.node 237 (.leaf 236 (.code aJZ)) (.node 239 (.leaf 237 (.code aJ0)) (.leaf 239 (.code aJ1))))) (.node 243 (.node 241 (.leaf 240 (.code aJ2)) (.node 242 (.leaf 241 (.prim false (eY 1))) (.leaf 242 (.code aJ3)))) (.node 244 (.leaf 243 (.code aJ4)) (.node 245 (.leaf 244 (.code aJ5)) (.leaf 245 (.code aJ6)))))))))
theorem UT:aMC.All (AV Go.Proofs.Tryz.prog):=⟨⟨⟨⟨⟨⟨⟨aMy,aMz⟩,⟨aMA,⟨aMB,aHm⟩⟩⟩,⟨⟨aHn,⟨aHo,aHp⟩⟩,⟨aHq,⟨aHr,aHs⟩⟩⟩⟩,⟨⟨⟨aHt,⟨aHu,aHv⟩⟩,⟨aHw,⟨aHx,aHy⟩⟩⟩,⟨⟨aJ7,⟨aHz,aHA⟩⟩,⟨aHB,⟨aHC,aHD⟩⟩⟩⟩⟩,⟨⟨⟨⟨aHE,⟨aHF,aHG⟩⟩,⟨aHH,⟨aHI,aHJ⟩⟩⟩,⟨⟨aHK,⟨aHL,aHM⟩⟩,⟨aHN,⟨aHO,aHP⟩⟩⟩⟩,⟨⟨⟨aHQ,⟨aHR,aHS⟩⟩,⟨aHT,⟨aHU,aHV⟩⟩⟩,⟨⟨aHW,⟨aHX,aHY⟩⟩,⟨aHZ,⟨aH0,aH1⟩⟩⟩⟩⟩⟩,⟨⟨⟨⟨⟨aH2,aH3⟩,⟨aH4,⟨aH5,aH6⟩⟩⟩,⟨⟨aH7,⟨aH8,aH9⟩⟩,⟨aIa,⟨aIb,aIc⟩⟩⟩⟩,⟨⟨⟨aJ8,⟨aId,aIe⟩⟩,⟨aBc,⟨aBd,aBe⟩⟩⟩,⟨⟨aBf,⟨aBg,aBh⟩⟩,⟨aBi,⟨aBj,aBk⟩⟩⟩⟩⟩,⟨⟨⟨⟨aBl,⟨aBm,aBn⟩⟩,⟨aBo,⟨aBp,aBq⟩⟩⟩,⟨⟨aBr,⟨aBs,aBt⟩⟩,⟨aBu,⟨aBv,aBw⟩⟩⟩⟩,⟨⟨⟨aBx,⟨aBy,aBz⟩⟩,⟨aBA,⟨aBB,aBC⟩⟩⟩,⟨⟨aBD,⟨aBE,aBF⟩⟩,⟨aDc,⟨aDd,aDe⟩⟩⟩⟩⟩⟩⟩,⟨⟨⟨⟨⟨⟨aDf,aBG⟩,⟨aBH,⟨aBI,aBJ⟩⟩⟩,⟨⟨aBK,⟨aBL,aBM⟩⟩,⟨aBN,⟨aBO,aBP⟩⟩⟩⟩,⟨⟨⟨aBQ,⟨aBR,aBS⟩⟩,⟨aBT,⟨aBU,aBV⟩⟩⟩,⟨⟨aBW,⟨aBX,aBY⟩⟩,⟨aBZ,⟨aB0,aB1⟩⟩⟩⟩⟩,⟨⟨⟨⟨aB2,⟨aB3,aB4⟩⟩,⟨aB5,⟨aB6,aB7⟩⟩⟩,⟨⟨aB8,⟨aB9,aCa⟩⟩,⟨aCb,⟨aCc,aCd⟩⟩⟩⟩,⟨⟨⟨aCe,⟨aCf,aCg⟩⟩,⟨aCh,⟨aCi,aCj⟩⟩⟩,⟨⟨aCk,⟨aCl,aCm⟩⟩,⟨aCn,⟨aCo,aCp⟩⟩⟩⟩⟩⟩,⟨⟨⟨⟨⟨aCq,aCr⟩,⟨aCs,⟨aCt,aCu⟩⟩⟩,⟨⟨aCv,⟨aCw,aCx⟩⟩,⟨aCy,⟨aCz,aCA⟩⟩⟩⟩,⟨⟨⟨aCB,⟨aCC,aCD⟩⟩,⟨aCF,⟨aCH,aCI⟩⟩⟩,⟨⟨aCJ,⟨aCK,aCL⟩⟩,⟨aCM,⟨aCN,aCO⟩⟩⟩⟩⟩,⟨⟨⟨⟨aCP,⟨aCQ,aCR⟩⟩,⟨aCS,⟨aCT,aDg⟩⟩⟩,⟨⟨aCU,⟨aCV,aCW⟩⟩,⟨aCX,⟨aCY,aCZ⟩⟩⟩⟩,⟨⟨⟨aC1,⟨aC2,aC3⟩⟩,⟨aC4,⟨aC5,aC6⟩⟩⟩,⟨⟨aC7,⟨aDh,aC8⟩⟩,⟨aC9,⟨aDa,aDb⟩⟩⟩⟩⟩⟩⟩⟩
def aZ:nM:=aMC.get
theorem aGY:aZ 3=some (.code x3):=rfl
theorem aMD:aZ 7=some (.code x7):=rfl
theorem aME:aZ 8=some (.code x8):=rfl
theorem aGZ:aZ 9=some (.code x9):=rfl
theorem aJ9:aZ 10=some (.code x10):=rfl
theorem aKa:aZ 11=some (.code x11):=rfl
theorem aKb:aZ 12=some (.code x12):=rfl
theorem aKc:aZ 13=some (.code x13):=rfl
theorem aKd:aZ 16=some (.code x16):=rfl
theorem aKe:aZ 25=some (.code x25):=rfl
theorem aKf:aZ 26=some (.code x26):=rfl
theorem aKg:aZ 31=some (.code x31):=rfl
theorem ZK:aZ 32=some (.code x32):=rfl
theorem aKh:aZ 33=some (.code x33):=rfl
theorem aKi:aZ 34=some (.code x34):=rfl
theorem aKj:aZ 35=some (.code x35):=rfl
theorem aKk:aZ 36=some (.code x36):=rfl
theorem aKl:aZ 37=some (.prim false (eY 1)):=rfl
theorem aKm:aZ 38=some (.code x38):=rfl
theorem aKn:aZ 39=some (.code x39):=rfl
theorem aKo:aZ 40=some (.code x40):=rfl
theorem aKp:aZ 41=some (.code x41):=rfl
theorem aKq:aZ 43=some (.code x43):=rfl
theorem aKr:aZ 47=some (.code x47):=rfl
theorem aKs:aZ 52=some (.code x52):=rfl
theorem aKt:aZ 53=some (.code x53):=rfl
theorem aKu:aZ 54=some (.code x54):=rfl
theorem aKv:aZ 55=some (.code x55):=rfl
theorem ZL:aZ 57=some (.code x57):=rfl
theorem aKw:aZ 59=some (.code x59):=rfl
theorem aKx:aZ 60=some (.code x60):=rfl
theorem aKy:aZ 61=some (.code x61):=rfl
theorem aKz:aZ 62=some (.code x62):=rfl
theorem aKA:aZ 63=some (.code x63):=rfl
theorem aKB:aZ 64=some (.code x64):=rfl
theorem aKC:aZ 65=some (.code x65):=rfl
theorem aKD:aZ 71=some (.code x71):=rfl
theorem ZM:aZ 72=some (.code x72):=rfl
theorem ZN:aZ 73=some (.code x73):=rfl
theorem ZO:aZ 74=some (.code x74):=rfl
theorem aKE:aZ 75=some (.code x75):=rfl
theorem aKF:aZ 76=some (.code x76):=rfl
theorem aKG:aZ 77=some (.code x77):=rfl
theorem aKH:aZ 78=some (.code x78):=rfl
theorem aKI:aZ 79=some (.code x79):=rfl
theorem aKJ:aZ 80=some (.code x80):=rfl
theorem aKK:aZ 81=some (.code x81):=rfl
theorem aKL:aZ 82=some (.code x82):=rfl
theorem ZP:aZ 83=some (.code x83):=rfl
theorem aKM:aZ 84=some (.code x84):=rfl
theorem aKN:aZ 85=some (.code x85):=rfl
theorem aKO:aZ 86=some (.code x86):=rfl
theorem aKP:aZ 87=some (.code x87):=rfl
theorem aKQ:aZ 88=some (.code x88):=rfl
theorem aKR:aZ 89=some (.code x89):=rfl
theorem aKS:aZ 90=some (.code x90):=rfl
theorem aKT:aZ 91=some (.code x91):=rfl
theorem aKU:aZ 92=some (.code x92):=rfl
theorem aKV:aZ 94=some (.prim false (eY 3)):=rfl
theorem aKW:aZ 96=some (.code x96):=rfl
theorem aKX:aZ 97=some (.code x97):=rfl
theorem aDi:aZ 104=some (.code aIf):=rfl
theorem aDj:aZ 106=some (.code aIg):=rfl
theorem aDk:aZ 107=some (.code aIh):=rfl
theorem aDl:aZ 108=some (.code aIi):=rfl
theorem UU:aZ 109=some (.code aIj):=rfl
theorem aDm:aZ 110=some (.code aIk):=rfl
theorem aDn:aZ 111=some (.code aIl):=rfl
theorem aDo:aZ 112=some (.code aIm):=rfl
theorem aDp:aZ 113=some (.code aIn):=rfl
theorem aDq:aZ 114=some (.code aIo):=rfl
theorem aDr:aZ 116=some (.code aIp):=rfl
theorem aDs:aZ 117=some (.code aIq):=rfl
theorem aDt:aZ 118=some (.code aIr):=rfl
theorem aDu:aZ 119=some (.code aIs):=rfl
theorem aDv:aZ 120=some (.code aIt):=rfl
theorem aDw:aZ 121=some (.code aIu):=rfl
theorem aDx:aZ 122=some (.code aIv):=rfl
theorem aDy:aZ 123=some (.code aIw):=rfl
theorem aDz:aZ 124=some (.code aIx):=rfl
theorem aDA:aZ 125=some (.code aIy):=rfl
theorem aDB:aZ 126=some (.code aIz):=rfl
theorem aDC:aZ 127=some (.code aIA):=rfl
theorem aDD:aZ 128=some (.code aIB):=rfl
theorem aDE:aZ 129=some (.code aIC):=rfl
theorem aDF:aZ 132=some (.code aID):=rfl
theorem UV:aZ 133=some (.code aIE):=rfl
theorem aDG:aZ 134=some (.code aIF):=rfl
theorem aDH:aZ 135=some (.code aIG):=rfl
theorem aDI:aZ 136=some (.code aIH):=rfl
theorem aDJ:aZ 137=some (.code aII):=rfl
theorem aDK:aZ 138=some (.prim false (eY 3)):=rfl
theorem aDL:aZ 139=some (.prim false (eY 3)):=rfl
theorem aDM:aZ 140=some (.prim false (eY 5)):=rfl
theorem aDN:aZ 141=some (.prim false (eY 1)):=rfl
theorem aDO:aZ 142=some (.code aIJ):=rfl
theorem aDP:aZ 143=some (.code aIK):=rfl
theorem aDQ:aZ 144=some (.code aIL):=rfl
theorem aDR:aZ 145=some (.code aIM):=rfl
theorem aDS:aZ 146=some (.code aIN):=rfl
theorem aDT:aZ 147=some (.code aIO):=rfl
theorem aDU:aZ 148=some (.code aIP):=rfl
theorem aDV:aZ 149=some (.code aIQ):=rfl
theorem aDW:aZ 150=some (.code aIR):=rfl
theorem aDX:aZ 151=some (.code aIS):=rfl
theorem aDY:aZ 152=some (.code aIT):=rfl
theorem aDZ:aZ 153=some (.code aIU):=rfl
theorem aD0:aZ 157=some (.code aIV):=rfl
theorem aD1:aZ 158=some (.code aIW):=rfl
theorem aD2:aZ 159=some (.code aIX):=rfl
theorem aD3:aZ 160=some (.code aIY):=rfl
theorem aD4:aZ 161=some (.code aIZ):=rfl
theorem UW:aZ 162=some (.code aI0):=rfl
theorem aD5:aZ 163=some (.code aI1):=rfl
theorem aD6:aZ 164=some (.code aI2):=rfl
theorem aD7:aZ 166=some (.code aI3):=rfl
theorem aD8:aZ 167=some (.code aI4):=rfl
theorem aD9:aZ 168=some (.code aI5):=rfl
theorem aEa:aZ 169=some (.code aI6):=rfl
theorem aEb:aZ 170=some (.code aI7):=rfl
theorem aEc:aZ 171=some (.code aI8):=rfl
theorem aEd:aZ 172=some (.code aI9):=rfl
theorem aEe:aZ 173=some (.code aJa):=rfl
theorem aEf:aZ 174=some (.code aJb):=rfl
theorem aEg:aZ 175=some (.code aJc):=rfl
theorem aEh:aZ 176=some (.code aJd):=rfl
theorem aEi:aZ 177=some (.code aJe):=rfl
theorem UX:aZ 178=some (.code aJf):=rfl
theorem aEj:aZ 179=some (.code aJg):=rfl
theorem aEk:aZ 180=some (.code aJh):=rfl
theorem aEl:aZ 183=some (.code aJi):=rfl
theorem aEm:aZ 184=some (.code aJj):=rfl
theorem aEn:aZ 185=some (.code aJk):=rfl
theorem aEo:aZ 186=some (.code aJl):=rfl
theorem aEp:aZ 187=some (.code aJm):=rfl
theorem aEq:aZ 188=some (.code aJn):=rfl
theorem aEr:aZ 189=some (.code aJo):=rfl
theorem aEs:aZ 190=some (.code aJp):=rfl
theorem aEt:aZ 191=some (.code aJq):=rfl
theorem aEu:aZ 192=some (.code aJr):=rfl
theorem aEv:aZ 193=some (.code aJs):=rfl
theorem aEw:aZ 194=some (.code aJt):=rfl
theorem aEx:aZ 195=some (.code aJu):=rfl
theorem aEy:aZ 196=some (.code aJv):=rfl
theorem aEz:aZ 198=some (.code aJw):=rfl
theorem aEA:aZ 199=some (.code aJx):=rfl
theorem aEB:aZ 200=some (.code aJy):=rfl
theorem aEC:aZ 201=some (.code aJz):=rfl
theorem NE:aZ 202=some (.code W8):=rfl
theorem UY:aZ 203=some (.code aJA):=rfl
theorem aED:aZ 204=some (.code aJB):=rfl
theorem aEE:aZ 205=some (.code aJC):=rfl
theorem aEF:aZ 206=some (.code aJD):=rfl
theorem aEG:aZ 207=some (.code aJE):=rfl
theorem aEH:aZ 208=some (.code aJF):=rfl
theorem aEI:aZ 210=some (.code aCE):=rfl
theorem aEJ:aZ 211=some (.code aCG):=rfl
theorem aEK:aZ 212=some (.code aJG):=rfl
theorem aEL:aZ 213=some (.code aJH):=rfl
theorem aEM:aZ 214=some (.code aJI):=rfl
theorem aEN:aZ 215=some (.code aJJ):=rfl
theorem aEO:aZ 216=some (.code aJK):=rfl
theorem aEP:aZ 218=some (.code aJL):=rfl
theorem aEQ:aZ 219=some (.code aJM):=rfl
theorem NF:aZ 220=some (.code aJN):=rfl
theorem aER:aZ 221=some (.code aJO):=rfl
theorem UZ:aZ 222=some (.code aJP):=rfl
theorem NG:aZ 223=some (.code aJQ):=rfl
theorem aES:aZ 224=some (.code aJR):=rfl
theorem aET:aZ 225=some (.prim false C4):=rfl
theorem aEU:aZ 227=some (.code aJS):=rfl
theorem U0:aZ 228=some (.code aJT):=rfl
theorem aEV:aZ 229=some (.code aJU):=rfl
theorem aEW:aZ 230=some (.code aJV):=rfl
theorem U1:aZ 231=some (.code ZJ):=rfl
theorem aEX:aZ 232=some (.code aJW):=rfl
theorem aEY:aZ 233=some (.code aC0):=rfl
theorem aEZ:aZ 234=some (.code aJX):=rfl
theorem aE0:aZ 235=some (.code aJY):=rfl
theorem aE1:aZ 236=some (.code aJZ):=rfl
theorem aE2:aZ 237=some (.code aJ0):=rfl
theorem aE3:aZ 239=some (.code aJ1):=rfl
theorem aE4:aZ 240=some (.code aJ2):=rfl
theorem aE5:aZ 241=some (.prim false (eY 1)):=rfl
theorem aE6:aZ 242=some (.code aJ3):=rfl
theorem aE7:aZ 243=some (.code aJ4):=rfl
theorem aE8:aZ 244=some (.code aJ5):=rfl
theorem aE9:aZ 245=some (.code aJ6):=rfl
end Go.Proofs.YtmlghnibpjlchaaGreat
