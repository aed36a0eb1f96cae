/- The table of the seat's functions. Printed by a program. -/
import Derived.Test.YtmlghnibpjlchaaGreatBQX1
import Derived.Test.YtmlghnibpjlchaaGreatBQX2
import Derived.Test.YtmlghnibpjlchaaGreatChecked
set_option maxRecDepth 100000
namespace Go.Proofs.YtmlghnibpjlchaaGreat
open Go.Vm
theorem kG:Go.Proofs.Tryz.prog.follows .mixedOrders=true:=Go.Proofs.Tryz.checked.mixed
theorem aJE:yI Go.Proofs.Tryz.prog 37 (.prim false (dZ 1)):=⟨rfl,lY kG (zero:=[.int .i64 0]) (by decide+kernel)⟩
theorem aJF:yI Go.Proofs.Tryz.prog 94 (.prim false (dZ 3)):=⟨rfl,lY kG (zero:=[.int .i64 0,.int .i64 0,.int .i64 0]) (by decide+kernel)⟩
theorem aCg:yI Go.Proofs.Tryz.prog 138 (.prim false (dZ 3)):=⟨rfl,lY kG (zero:=[.int .i64 0,.int .i64 0,.int .i64 0]) (by decide+kernel)⟩
theorem aCh:yI Go.Proofs.Tryz.prog 139 (.prim false (dZ 3)):=⟨rfl,lY kG (zero:=[.int .i64 0,.int .i64 0,.int .i64 0]) (by decide+kernel)⟩
theorem aCi:yI Go.Proofs.Tryz.prog 140 (.prim false (dZ 5)):=⟨rfl,lY kG (zero:=[.int .i64 0,.int .i64 0,.int .i64 0,.int .i64 0,.int .i64 0]) (by decide+kernel)⟩
theorem aCj:yI Go.Proofs.Tryz.prog 141 (.prim false (dZ 1)):=⟨rfl,lY kG (zero:=[.bool false]) (by decide+kernel)⟩
theorem aCk:yI Go.Proofs.Tryz.prog 225 (.prim false BV):=⟨rfl,QJ Go.Proofs.Tryz.func225 (by kernel_rfl) (by kernel_rfl) (by kernel_rfl) (by kernel_rfl)⟩
theorem aCl:yI Go.Proofs.Tryz.prog 241 (.prim false (dZ 1)):=⟨rfl,lY kG (zero:=[.int .i64 0]) (by decide+kernel)⟩
def aLY:TT:= .node 142 (.node 79 (.node 51 (.node 24 (.node 18 (.node 13 (.node 7 (.leaf 5 (.code x5)) (.node 12 (.leaf 7 (.code x7)) (.leaf 12 (.code x12)))) (.node 16 (.leaf 13 (.code x13)) (.node 17 (.leaf 16 (.code x16)) (.leaf 17 (.code x17))))) (.node 21 (.node 19 (.leaf 18 (.code x18)) (.node 20 (.leaf 19 (.code x19)) (.leaf 20 (.code x20)))) (.node 22 (.leaf 21 (.code x21)) (.node 23 (.leaf 22 (.code x22)) (.leaf 23 (.code x23)))))) (.node 34 (.node 31 (.node 25 (.leaf 24 (.code x24)) (.node 26 (.leaf 25 (.code x25)) (.leaf 26 (.code x26)))) (.node 32 (.leaf 31 (.code x31)) (.node 33 (.leaf 32 (.code x32)) (.leaf 33 (.code x33))))) (.node 41 (.node 37 (.leaf 34 (.code x34)) (.node 40 (.leaf 37 (.prim false (dZ 1))) (.leaf 40 (.code x40)))) (.node 43 (.leaf 41 (.code x41)) (.node 50 (.leaf 43 (.code x43)) (.leaf 50 (.code x50))))))) (.node 63 (.node 57 (.node 54 (.node 52 (.leaf 51 (.code x51)) (.node 53 (.leaf 52 (.code x52)) (.leaf 53 (.code x53)))) (.node 55 (.leaf 54 (.code x54)) (.node 56 (.leaf 55 (.code x55)) (.leaf 56 (.code x56))))) (.node 60 (.node 58 (.leaf 57 (.code x57)) (.node 59 (.leaf 58 (.code x58)) (.leaf 59 (.code x59)))) (.node 61 (.leaf 60 (.code x60)) (.node 62 (.leaf 61 (.code x61)) (.leaf 62 (.code x62)))))) (.node 73 (.node 68 (.node 64 (.leaf 63 (.code x63)) (.node 65 (.leaf 64 (.code x64)) (.leaf 65 (.code x65)))) (.node 71 (.leaf 68 (.code x68)) (.node 72 (.leaf 71 (.code x71)) (.leaf 72 (.code x72))))) (.node 76 (.node 74 (.leaf 73 (.code x73)) (.node 75 (.leaf 74 (.code x74)) (.leaf 75 (.code x75)))) (.node 77 (.leaf 76 (.code x76)) (.node 78 (.leaf 77 (.code x77)) (.leaf 78 (.code x78)))))))) (.node 116 (.node 104 (.node 90 (.node 84 (.node 80 (.leaf 79 (.code x79)) (.node 83 (.leaf 80 (.code x80)) (.leaf 83 (.code x83)))) (.node 87 (.leaf 84 (.code x84)) (.node 89 (.leaf 87 (.code x87)) (.leaf 89 (.code x89))))) (.node 94 (.node 91 (.leaf 90 (.code x90)) (.node 92 (.leaf 91 (.code x91)) (.leaf 92 (.code x92)))) (.node 96 (.leaf 94 (.prim false (dZ 3))) (.node 97 (.leaf 96 (.code x96)) (.leaf 97 (.code x97)))))) (.node 110 (.node 107 (.node 105 (.leaf 104 (.code aHE)) (.node 106 (.leaf 105 (.code aHF)) (.leaf 106 (.code aHG)))) (.node 108 (.leaf 107 (.code aHH)) (.node 109 (.leaf 108 (.code aHI)) (.leaf 109 (.code aHJ))))) (.node 113 (.node 111 (.leaf 110 (.code aHK)) (.node 112 (.leaf 111 (.code aHL)) (.leaf 112 (.code aHM)))) (.node 114 (.leaf 113 (.code aHN)) (.node 115 (.leaf 114 (.code aHO)) (.leaf 115 (.code aHP))))))) (.node 128 (.node 122 (.node 119 (.node 117 (.leaf 116 (.code aHQ)) (.node 118 (.leaf 117 (.code aHR)) (.leaf 118 (.code aHS)))) (.node 120 (.leaf 119 (.code aHT)) (.node 121 (.leaf 120 (.code aHU)) (.leaf 121 (.code aHV))))) (.node 125 (.node 123 (.leaf 122 (.code aHW)) (.node 124 (.leaf 123 (.code aHX)) (.leaf 124 (.code aHY)))) (.node 126 (.leaf 125 (.code aHZ)) (.node 127 (.leaf 126 (.code aH0)) (.leaf 127 (.code aH1)))))) (.node 135 (.node 132 (.node 129 (.leaf 128 (.code aH2)) (.node 131 (.leaf 129 (.code aH3)) (.leaf 131 (.code aH4)))) (.node 133 (.leaf 132 (.code aH5)) (.node 134 (.leaf 133 (.code aH6)) (.leaf 134 (.code aH7))))) (.node 138 (.node 136 (.leaf 135 (.code aH8)) (.node 137 (.leaf 136 (.code aH9)) (.leaf 137 (.code aIa)))) (.node 140 (.node 139 (.leaf 138 (.prim false (dZ 3))) (.leaf 139 (.prim false (dZ 3)))) (.node 141 (.leaf 140 (.prim false (dZ 5))) (.leaf 141 (.prim false (dZ 1)))))))))) (.node 195 (.node 168 (.node 156 (.node 149 (.node 146 (.node 143 (.leaf 142 (.code aIb)) (.node 144 (.leaf 143 (.code aIc)) (.leaf 144 (.code aId)))) (.node 147 (.leaf 146 (.code aIe)) (.node 148 (.leaf 147 (.code aIf)) (.leaf 148 (.code aIg))))) (.node 152 (.node 150 (.leaf 149 (.code aIh)) (.node 151 (.leaf 150 (.code aIi)) (.leaf 151 (.code aIj)))) (.node 153 (.leaf 152 (.code aIk)) (.node 155 (.leaf 153 (.code aIl)) (.leaf 155 (.code aIm)))))) (.node 162 (.node 159 (.node 157 (.leaf 156 (.code aIn)) (.node 158 (.leaf 157 (.code aIo)) (.leaf 158 (.code aIp)))) (.node 160 (.leaf 159 (.code aIq)) (.node 161 (.leaf 160 (.code aIr)) (.leaf 161 (.code aIs))))) (.node 165 (.node 163 (.leaf 162 (.code aIt)) (.node 164 (.leaf 163 (.code aIu)) (.leaf 164 (.code aIv)))) (.node 166 (.leaf 165 (.code aIw)) (.node 167 (.leaf 166 (.code aIx)) (.leaf 167 (.code aIy))))))) (.node 180 (.node 174 (.node 171 (.node 169 (.leaf 168 (.code aIz)) (.node 170 (.leaf 169 (.code aIA)) (.leaf 170 (.code aIB)))) (.node 172 (.leaf 171 (.code aIC)) (.node 173 (.leaf 172 (.code aID)) (.leaf 173 (.code aIE))))) (.node 177 (.node 175 (.leaf 174 (.code aIF)) (.node 176 (.leaf 175 (.code aIG)) (.leaf 176 (.code aIH)))) (.node 178 (.leaf 177 (.code aII)) (.node 179 (.leaf 178 (.code aIJ)) (.leaf 179 (.code aIK)))))) (.node 188 (.node 185 (.node 183 (.leaf 180 (.code aIL)) (.node 184 (.leaf 183 (.code aIM)) (.leaf 184 (.code aIN)))) (.node 186 (.leaf 185 (.code aIO)) (.node 187 (.leaf 186 (.code aIP)) (.leaf 187 (.code aIQ))))) (.node 191 (.node 189 (.leaf 188 (.code aIR)) (.node 190 (.leaf 189 (.code aIS)) (.leaf 190 (.code aIT)))) (.node 193 (.node 192 (.leaf 191 (.code aIU)) (.leaf 192 (.code aIV))) (.node 194 (.leaf 193 (.code aIW)) (.leaf 194 (.code aIX)))))))) (.node 220 (.node 207 (.node 201 (.node 198 (.node 196 (.leaf 195 (.code aIY)) (.node 197 (.leaf 196 (.code aIZ)) (.leaf 197 (.code aI0)))) (.node 199 (.leaf 198 (.code aI1)) (.node 200 (.leaf 199 (.code aI2)) (.leaf 200 (.code aI3))))) (.node 204 (.node 202 (.leaf 201 (.code aI4)) (.node 203 (.leaf 202 (.code VD)) (.leaf 203 (.code aI5)))) (.node 205 (.leaf 204 (.code aI6)) (.node 206 (.leaf 205 (.code aI7)) (.leaf 206 (.code aI8)))))) (.node 213 (.node 210 (.node 208 (.leaf 207 (.code aI9)) (.node 209 (.leaf 208 (.code aJa)) (.leaf 209 (.code aJb)))) (.node 211 (.leaf 210 (.code aBH)) (.node 212 (.leaf 211 (.code aBJ)) (.leaf 212 (.code aJc))))) (.node 216 (.node 214 (.leaf 213 (.code aJd)) (.node 215 (.leaf 214 (.code aJe)) (.leaf 215 (.code aJf)))) (.node 218 (.leaf 216 (.code aJg)) (.node 219 (.leaf 218 (.code aJh)) (.leaf 219 (.code aJi))))))) (.node 232 (.node 226 (.node 223 (.node 221 (.leaf 220 (.code aJj)) (.node 222 (.leaf 221 (.code aJk)) (.leaf 222 (.code aJl)))) (.node 224 (.leaf 223 (.code aJm)) (.node 225 (.leaf 224 (.code aJn)) (.leaf 225 (.prim false BV))))) (.node 229 (.node 227 (.leaf 226 (.code aJo)) (.node 228 (.leaf 227 (.code aJp)) (.leaf 228 (.code aJq)))) (.node 230 (.leaf 229 (.code aJr)) (.node 231 (.leaf 230 (.code aJs)) (.leaf 231 (.code XN)))))) (.node 239 (.node 235 (.node 233 (.leaf 232 (.code aJt)) (.node 234 (.leaf 233 (.code aB4)) (.leaf 234 (.code aJu)))) (.node 236 (.leaf 235 (.code aJv)) (.node 237 (.leaf 236 (.code aJw)) (.leaf 237 (.code aJx))))) (.node 242 (.node 240 (.leaf 239 (.code aJy)) (.node 241 (.leaf 240 (.code aJz)) (.leaf 241 (.prim false (dZ 1))))) (.node 244 (.node 243 (.leaf 242 (.code aJA)) (.leaf 243 (.code aJB))) (.node 245 (.leaf 244 (.code aJC)) (.leaf 245 (.code aJD)))))))))
theorem TA:aLY.All (yI Go.Proofs.Tryz.prog):=⟨⟨⟨⟨⟨⟨⟨aLW,⟨aLX,aGK⟩⟩,⟨aGL,⟨aGM,aGN⟩⟩⟩,⟨⟨aGO,⟨aGP,aGQ⟩⟩,⟨aGR,⟨aGS,aGT⟩⟩⟩⟩,⟨⟨⟨aGU,⟨aGV,aGW⟩⟩,⟨aGX,⟨aGY,aGZ⟩⟩⟩,⟨⟨aG0,⟨aJE,aG1⟩⟩,⟨aG2,⟨aG3,aG4⟩⟩⟩⟩⟩,⟨⟨⟨⟨aG5,⟨aG6,aG7⟩⟩,⟨aG8,⟨aG9,aHa⟩⟩⟩,⟨⟨aHb,⟨aHc,aHd⟩⟩,⟨aHe,⟨aHf,aHg⟩⟩⟩⟩,⟨⟨⟨aHh,⟨aHi,aHj⟩⟩,⟨aHk,⟨aHl,aHm⟩⟩⟩,⟨⟨aHn,⟨aHo,aHp⟩⟩,⟨aHq,⟨aHr,aHs⟩⟩⟩⟩⟩⟩,⟨⟨⟨⟨⟨aHt,⟨aHu,aHv⟩⟩,⟨aHw,⟨aHx,aHy⟩⟩⟩,⟨⟨aHz,⟨aHA,aHB⟩⟩,⟨aJF,⟨aHC,aHD⟩⟩⟩⟩,⟨⟨⟨Z8,⟨Z9,aAa⟩⟩,⟨aAb,⟨aAc,aAd⟩⟩⟩,⟨⟨aAe,⟨aAf,aAg⟩⟩,⟨aAh,⟨aAi,aAj⟩⟩⟩⟩⟩,⟨⟨⟨⟨aAk,⟨aAl,aAm⟩⟩,⟨aAn,⟨aAo,aAp⟩⟩⟩,⟨⟨aAq,⟨aAr,aAs⟩⟩,⟨aAt,⟨aAu,aAv⟩⟩⟩⟩,⟨⟨⟨aAw,⟨aAx,aAy⟩⟩,⟨aAz,⟨aAA,aAB⟩⟩⟩,⟨⟨aAC,⟨aAD,aAE⟩⟩,⟨⟨aCg,aCh⟩,⟨aCi,aCj⟩⟩⟩⟩⟩⟩⟩,⟨⟨⟨⟨⟨⟨aAF,⟨aAG,aAH⟩⟩,⟨aAI,⟨aAJ,aAK⟩⟩⟩,⟨⟨aAL,⟨aAM,aAN⟩⟩,⟨aAO,⟨aAP,aAQ⟩⟩⟩⟩,⟨⟨⟨aAR,⟨aAS,aAT⟩⟩,⟨aAU,⟨aAV,aAW⟩⟩⟩,⟨⟨aAX,⟨aAY,aAZ⟩⟩,⟨aA0,⟨aA1,aA2⟩⟩⟩⟩⟩,⟨⟨⟨⟨aA3,⟨aA4,aA5⟩⟩,⟨aA6,⟨aA7,aA8⟩⟩⟩,⟨⟨aA9,⟨aBa,aBb⟩⟩,⟨aBc,⟨aBd,aBe⟩⟩⟩⟩,⟨⟨⟨aBf,⟨aBg,aBh⟩⟩,⟨aBi,⟨aBj,aBk⟩⟩⟩,⟨⟨aBl,⟨aBm,aBn⟩⟩,⟨⟨aBo,aBp⟩,⟨aBq,aBr⟩⟩⟩⟩⟩⟩,⟨⟨⟨⟨⟨aBs,⟨aBt,aBu⟩⟩,⟨aBv,⟨aBw,aBx⟩⟩⟩,⟨⟨aBy,⟨aBz,aBA⟩⟩,⟨aBB,⟨aBC,aBD⟩⟩⟩⟩,⟨⟨⟨aBE,⟨aBF,aBG⟩⟩,⟨aBI,⟨aBK,aBL⟩⟩⟩,⟨⟨aBM,⟨aBN,aBO⟩⟩,⟨aBP,⟨aBQ,aBR⟩⟩⟩⟩⟩,⟨⟨⟨⟨aBS,⟨aBT,aBU⟩⟩,⟨aBV,⟨aBW,aCk⟩⟩⟩,⟨⟨aBX,⟨aBY,aBZ⟩⟩,⟨aB0,⟨aB1,aB2⟩⟩⟩⟩,⟨⟨⟨aB3,⟨aB5,aB6⟩⟩,⟨aB7,⟨aB8,aB9⟩⟩⟩,⟨⟨aCa,⟨aCb,aCl⟩⟩,⟨⟨aCc,aCd⟩,⟨aCe,aCf⟩⟩⟩⟩⟩⟩⟩⟩
def aT:lX:=aLY.get
theorem aGm:aT 5=some (.code x5):=rfl
theorem aLZ:aT 7=some (.code x7):=rfl
theorem aJG:aT 12=some (.code x12):=rfl
theorem aJH:aT 13=some (.code x13):=rfl
theorem aJI:aT 16=some (.code x16):=rfl
theorem aJJ:aT 17=some (.code x17):=rfl
theorem aJK:aT 18=some (.code x18):=rfl
theorem aJL:aT 19=some (.code x19):=rfl
theorem aJM:aT 20=some (.code x20):=rfl
theorem aJN:aT 21=some (.code x21):=rfl
theorem aJO:aT 22=some (.code x22):=rfl
theorem aJP:aT 23=some (.code x23):=rfl
theorem aJQ:aT 24=some (.code x24):=rfl
theorem aJR:aT 25=some (.code x25):=rfl
theorem aJS:aT 26=some (.code x26):=rfl
theorem aJT:aT 31=some (.code x31):=rfl
theorem XO:aT 32=some (.code x32):=rfl
theorem aJU:aT 33=some (.code x33):=rfl
theorem aJV:aT 34=some (.code x34):=rfl
theorem aJW:aT 37=some (.prim false (dZ 1)):=rfl
theorem aJX:aT 40=some (.code x40):=rfl
theorem aJY:aT 41=some (.code x41):=rfl
theorem aJZ:aT 43=some (.code x43):=rfl
theorem aJ0:aT 50=some (.code x50):=rfl
theorem aJ1:aT 51=some (.code x51):=rfl
theorem aJ2:aT 52=some (.code x52):=rfl
theorem aJ3:aT 53=some (.code x53):=rfl
theorem aJ4:aT 54=some (.code x54):=rfl
theorem aJ5:aT 55=some (.code x55):=rfl
theorem aJ6:aT 56=some (.code x56):=rfl
theorem XP:aT 57=some (.code x57):=rfl
theorem aJ7:aT 58=some (.code x58):=rfl
theorem aJ8:aT 59=some (.code x59):=rfl
theorem aJ9:aT 60=some (.code x60):=rfl
theorem aKa:aT 61=some (.code x61):=rfl
theorem aKb:aT 62=some (.code x62):=rfl
theorem aKc:aT 63=some (.code x63):=rfl
theorem aKd:aT 64=some (.code x64):=rfl
theorem aKe:aT 65=some (.code x65):=rfl
theorem XQ:aT 68=some (.code x68):=rfl
theorem aKf:aT 71=some (.code x71):=rfl
theorem XS:aT 72=some (.code x72):=rfl
theorem XT:aT 73=some (.code x73):=rfl
theorem XU:aT 74=some (.code x74):=rfl
theorem aKg:aT 75=some (.code x75):=rfl
theorem aKh:aT 76=some (.code x76):=rfl
theorem aKi:aT 77=some (.code x77):=rfl
theorem aKj:aT 78=some (.code x78):=rfl
theorem aKk:aT 79=some (.code x79):=rfl
theorem aKl:aT 80=some (.code x80):=rfl
theorem XV:aT 83=some (.code x83):=rfl
theorem aKm:aT 84=some (.code x84):=rfl
theorem aKn:aT 87=some (.code x87):=rfl
theorem aKo:aT 89=some (.code x89):=rfl
theorem aKp:aT 90=some (.code x90):=rfl
theorem aKq:aT 91=some (.code x91):=rfl
theorem aKr:aT 92=some (.code x92):=rfl
theorem aKs:aT 94=some (.prim false (dZ 3)):=rfl
theorem aKt:aT 96=some (.code x96):=rfl
theorem aKu:aT 97=some (.code x97):=rfl
theorem aCm:aT 104=some (.code aHE):=rfl
theorem aCn:aT 105=some (.code aHF):=rfl
theorem aCo:aT 106=some (.code aHG):=rfl
theorem aCp:aT 107=some (.code aHH):=rfl
theorem aCq:aT 108=some (.code aHI):=rfl
theorem TB:aT 109=some (.code aHJ):=rfl
theorem aCr:aT 110=some (.code aHK):=rfl
theorem aCs:aT 111=some (.code aHL):=rfl
theorem aCt:aT 112=some (.code aHM):=rfl
theorem aCu:aT 113=some (.code aHN):=rfl
theorem aCv:aT 114=some (.code aHO):=rfl
theorem aCw:aT 115=some (.code aHP):=rfl
theorem aCx:aT 116=some (.code aHQ):=rfl
theorem aCy:aT 117=some (.code aHR):=rfl
theorem aCz:aT 118=some (.code aHS):=rfl
theorem aCA:aT 119=some (.code aHT):=rfl
theorem aCB:aT 120=some (.code aHU):=rfl
theorem aCC:aT 121=some (.code aHV):=rfl
theorem aCD:aT 122=some (.code aHW):=rfl
theorem aCE:aT 123=some (.code aHX):=rfl
theorem aCF:aT 124=some (.code aHY):=rfl
theorem aCG:aT 125=some (.code aHZ):=rfl
theorem aCH:aT 126=some (.code aH0):=rfl
theorem aCI:aT 127=some (.code aH1):=rfl
theorem aCJ:aT 128=some (.code aH2):=rfl
theorem aCK:aT 129=some (.code aH3):=rfl
theorem aCL:aT 131=some (.code aH4):=rfl
theorem aCM:aT 132=some (.code aH5):=rfl
theorem TC:aT 133=some (.code aH6):=rfl
theorem aCN:aT 134=some (.code aH7):=rfl
theorem aCO:aT 135=some (.code aH8):=rfl
theorem aCP:aT 136=some (.code aH9):=rfl
theorem aCQ:aT 137=some (.code aIa):=rfl
theorem aCR:aT 138=some (.prim false (dZ 3)):=rfl
theorem aCS:aT 139=some (.prim false (dZ 3)):=rfl
theorem aCT:aT 140=some (.prim false (dZ 5)):=rfl
theorem aCU:aT 141=some (.prim false (dZ 1)):=rfl
theorem aCV:aT 142=some (.code aIb):=rfl
theorem aCW:aT 143=some (.code aIc):=rfl
theorem aCX:aT 144=some (.code aId):=rfl
theorem aCY:aT 146=some (.code aIe):=rfl
theorem aCZ:aT 147=some (.code aIf):=rfl
theorem aC0:aT 148=some (.code aIg):=rfl
theorem aC1:aT 149=some (.code aIh):=rfl
theorem aC2:aT 150=some (.code aIi):=rfl
theorem aC3:aT 151=some (.code aIj):=rfl
theorem aC4:aT 152=some (.code aIk):=rfl
theorem aC5:aT 153=some (.code aIl):=rfl
theorem aC6:aT 155=some (.code aIm):=rfl
theorem TD:aT 156=some (.code aIn):=rfl
theorem aC7:aT 157=some (.code aIo):=rfl
theorem aC8:aT 158=some (.code aIp):=rfl
theorem aC9:aT 159=some (.code aIq):=rfl
theorem aDa:aT 160=some (.code aIr):=rfl
theorem aDb:aT 161=some (.code aIs):=rfl
theorem TE:aT 162=some (.code aIt):=rfl
theorem aDc:aT 163=some (.code aIu):=rfl
theorem aDd:aT 164=some (.code aIv):=rfl
theorem aDe:aT 165=some (.code aIw):=rfl
theorem aDf:aT 166=some (.code aIx):=rfl
theorem aDg:aT 167=some (.code aIy):=rfl
theorem aDh:aT 168=some (.code aIz):=rfl
theorem aDi:aT 169=some (.code aIA):=rfl
theorem aDj:aT 170=some (.code aIB):=rfl
theorem aDk:aT 171=some (.code aIC):=rfl
theorem aDl:aT 172=some (.code aID):=rfl
theorem aDm:aT 173=some (.code aIE):=rfl
theorem aDn:aT 174=some (.code aIF):=rfl
theorem aDo:aT 175=some (.code aIG):=rfl
theorem aDp:aT 176=some (.code aIH):=rfl
theorem aDq:aT 177=some (.code aII):=rfl
theorem TF:aT 178=some (.code aIJ):=rfl
theorem aDr:aT 179=some (.code aIK):=rfl
theorem aDs:aT 180=some (.code aIL):=rfl
theorem aDt:aT 183=some (.code aIM):=rfl
theorem aDu:aT 184=some (.code aIN):=rfl
theorem aDv:aT 185=some (.code aIO):=rfl
theorem aDw:aT 186=some (.code aIP):=rfl
theorem aDx:aT 187=some (.code aIQ):=rfl
theorem aDy:aT 188=some (.code aIR):=rfl
theorem aDz:aT 189=some (.code aIS):=rfl
theorem aDA:aT 190=some (.code aIT):=rfl
theorem aDB:aT 191=some (.code aIU):=rfl
theorem aDC:aT 192=some (.code aIV):=rfl
theorem aDD:aT 193=some (.code aIW):=rfl
theorem aDE:aT 194=some (.code aIX):=rfl
theorem aDF:aT 195=some (.code aIY):=rfl
theorem aDG:aT 196=some (.code aIZ):=rfl
theorem aDH:aT 197=some (.code aI0):=rfl
theorem aDI:aT 198=some (.code aI1):=rfl
theorem aDJ:aT 199=some (.code aI2):=rfl
theorem aDK:aT 200=some (.code aI3):=rfl
theorem aDL:aT 201=some (.code aI4):=rfl
theorem L0:aT 202=some (.code VD):=rfl
theorem TG:aT 203=some (.code aI5):=rfl
theorem aDM:aT 204=some (.code aI6):=rfl
theorem aDN:aT 205=some (.code aI7):=rfl
theorem aDO:aT 206=some (.code aI8):=rfl
theorem aDP:aT 207=some (.code aI9):=rfl
theorem aDQ:aT 208=some (.code aJa):=rfl
theorem aDR:aT 209=some (.code aJb):=rfl
theorem aDS:aT 210=some (.code aBH):=rfl
theorem aDT:aT 211=some (.code aBJ):=rfl
theorem aDU:aT 212=some (.code aJc):=rfl
theorem aDV:aT 213=some (.code aJd):=rfl
theorem aDW:aT 214=some (.code aJe):=rfl
theorem aDX:aT 215=some (.code aJf):=rfl
theorem aDY:aT 216=some (.code aJg):=rfl
theorem aDZ:aT 218=some (.code aJh):=rfl
theorem aD0:aT 219=some (.code aJi):=rfl
theorem L1:aT 220=some (.code aJj):=rfl
theorem aD1:aT 221=some (.code aJk):=rfl
theorem TH:aT 222=some (.code aJl):=rfl
theorem L2:aT 223=some (.code aJm):=rfl
theorem aD2:aT 224=some (.code aJn):=rfl
theorem aD3:aT 225=some (.prim false BV):=rfl
theorem aD4:aT 226=some (.code aJo):=rfl
theorem aD5:aT 227=some (.code aJp):=rfl
theorem TI:aT 228=some (.code aJq):=rfl
theorem aD6:aT 229=some (.code aJr):=rfl
theorem aD7:aT 230=some (.code aJs):=rfl
theorem TJ:aT 231=some (.code XN):=rfl
theorem aD8:aT 232=some (.code aJt):=rfl
theorem aD9:aT 233=some (.code aB4):=rfl
theorem aEa:aT 234=some (.code aJu):=rfl
theorem aEb:aT 235=some (.code aJv):=rfl
theorem aEc:aT 236=some (.code aJw):=rfl
theorem aEd:aT 237=some (.code aJx):=rfl
theorem aEe:aT 239=some (.code aJy):=rfl
theorem aEf:aT 240=some (.code aJz):=rfl
theorem aEg:aT 241=some (.prim false (dZ 1)):=rfl
theorem aEh:aT 242=some (.code aJA):=rfl
theorem aEi:aT 243=some (.code aJB):=rfl
theorem aEj:aT 244=some (.code aJC):=rfl
theorem aEk:aT 245=some (.code aJD):=rfl
end Go.Proofs.YtmlghnibpjlchaaGreat
