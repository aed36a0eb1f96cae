/- The table of the seat's functions. Printed by a program. -/
import Derived.Test.YtmlghnibpjlchaaGreatTQX1
import Derived.Test.YtmlghnibpjlchaaGreatTQX2
import Derived.Test.YtmlghnibpjlchaaGreatChecked
set_option maxRecDepth 100000
namespace Go.Proofs.YtmlghnibpjlchaaGreat
open Go.Vm
theorem mO:Go.Proofs.Tryz.prog.follows .mixedOrders=true:=Go.Proofs.Tryz.checked.mixed
theorem aLr:BV Go.Proofs.Tryz.prog 37 (.prim false (fP 1)):=⟨rfl,oM mO (zero:=[.int .i64 0]) (by decide+kernel)⟩
theorem aLs:BV Go.Proofs.Tryz.prog 94 (.prim false (fP 3)):=⟨rfl,oM mO (zero:=[.int .i64 0,.int .i64 0,.int .i64 0]) (by decide+kernel)⟩
theorem aD4:BV Go.Proofs.Tryz.prog 138 (.prim false (fP 3)):=⟨rfl,oM mO (zero:=[.int .i64 0,.int .i64 0,.int .i64 0]) (by decide+kernel)⟩
theorem aD5:BV Go.Proofs.Tryz.prog 139 (.prim false (fP 3)):=⟨rfl,oM mO (zero:=[.int .i64 0,.int .i64 0,.int .i64 0]) (by decide+kernel)⟩
theorem aD6:BV Go.Proofs.Tryz.prog 140 (.prim false (fP 5)):=⟨rfl,oM mO (zero:=[.int .i64 0,.int .i64 0,.int .i64 0,.int .i64 0,.int .i64 0]) (by decide+kernel)⟩
theorem aD7:BV Go.Proofs.Tryz.prog 141 (.prim false (fP 1)):=⟨rfl,oM mO (zero:=[.bool false]) (by decide+kernel)⟩
theorem aD8:BV Go.Proofs.Tryz.prog 225 (.prim false EA):=⟨rfl,TK Go.Proofs.Tryz.func225 (by kernel_rfl) (by kernel_rfl) (by kernel_rfl) (by kernel_rfl)⟩
theorem aD9:BV Go.Proofs.Tryz.prog 241 (.prim false (fP 1)):=⟨rfl,oM mO (zero:=[.int .i64 0]) (by decide+kernel)⟩
def aNX:TT:= .node 139 (.node 84 (.node 52 (.node 34 (.node 16 (.node 12 (.node 7 (.leaf 4 (.code x4)) (.node 9 (.leaf 7 (.code x7)) (.leaf 9 (.code x9)))) (.node 14 (.leaf 12 (.code x12)) (.node 15 (.leaf 14 (.code x14)) (.leaf 15 (.code x15))))) (.node 31 (.node 25 (.leaf 16 (.code x16)) (.node 26 (.leaf 25 (.code x25)) (.leaf 26 (.code x26)))) (.node 32 (.leaf 31 (.code x31)) (.node 33 (.leaf 32 (.code x32)) (.leaf 33 (.code x33)))))) (.node 44 (.node 41 (.node 37 (.leaf 34 (.code x34)) (.node 40 (.leaf 37 (.prim false (fP 1))) (.leaf 40 (.code x40)))) (.node 42 (.leaf 41 (.code x41)) (.node 43 (.leaf 42 (.code x42)) (.leaf 43 (.code x43))))) (.node 47 (.node 45 (.leaf 44 (.code x44)) (.node 46 (.leaf 45 (.code x45)) (.leaf 46 (.code x46)))) (.node 48 (.leaf 47 (.code x47)) (.node 49 (.leaf 48 (.code x48)) (.leaf 49 (.code x49))))))) (.node 68 (.node 60 (.node 55 (.node 53 (.leaf 52 (.code x52)) (.node 54 (.leaf 53 (.code x53)) (.leaf 54 (.code x54)))) (.node 57 (.leaf 55 (.code x55)) (.node 59 (.leaf 57 (.code x57)) (.leaf 59 (.code x59))))) (.node 63 (.node 61 (.leaf 60 (.code x60)) (.node 62 (.leaf 61 (.code x61)) (.leaf 62 (.code x62)))) (.node 64 (.leaf 63 (.code x63)) (.node 65 (.leaf 64 (.code x64)) (.leaf 65 (.code x65)))))) (.node 76 (.node 73 (.node 71 (.leaf 68 (.code x68)) (.node 72 (.leaf 71 (.code x71)) (.leaf 72 (.code x72)))) (.node 74 (.leaf 73 (.code x73)) (.node 75 (.leaf 74 (.code x74)) (.leaf 75 (.code x75))))) (.node 79 (.node 77 (.leaf 76 (.code x76)) (.node 78 (.leaf 77 (.code x77)) (.leaf 78 (.code x78)))) (.node 80 (.leaf 79 (.code x79)) (.node 83 (.leaf 80 (.code x80)) (.leaf 83 (.code x83)))))))) (.node 112 (.node 99 (.node 93 (.node 90 (.node 87 (.leaf 84 (.code x84)) (.node 89 (.leaf 87 (.code x87)) (.leaf 89 (.code x89)))) (.node 91 (.leaf 90 (.code x90)) (.node 92 (.leaf 91 (.code x91)) (.leaf 92 (.code x92))))) (.node 96 (.node 94 (.leaf 93 (.code x93)) (.node 95 (.leaf 94 (.prim false (fP 3))) (.leaf 95 (.code x95)))) (.node 97 (.leaf 96 (.code x96)) (.node 98 (.leaf 97 (.code x97)) (.leaf 98 (.code x98)))))) (.node 106 (.node 102 (.node 100 (.leaf 99 (.code x99)) (.node 101 (.leaf 100 (.code aJv)) (.leaf 101 (.code aJw)))) (.node 103 (.leaf 102 (.code aJx)) (.node 104 (.leaf 103 (.code aJy)) (.leaf 104 (.code aJz))))) (.node 109 (.node 107 (.leaf 106 (.code aJA)) (.node 108 (.leaf 107 (.code aJB)) (.leaf 108 (.code aJC)))) (.node 110 (.leaf 109 (.code aJD)) (.node 111 (.leaf 110 (.code aJE)) (.leaf 111 (.code aJF))))))) (.node 126 (.node 120 (.node 117 (.node 113 (.leaf 112 (.code aJG)) (.node 114 (.leaf 113 (.code aJH)) (.leaf 114 (.code aJI)))) (.node 118 (.leaf 117 (.code aJJ)) (.node 119 (.leaf 118 (.code aJK)) (.leaf 119 (.code aJL))))) (.node 123 (.node 121 (.leaf 120 (.code aJM)) (.node 122 (.leaf 121 (.code aJN)) (.leaf 122 (.code aJO)))) (.node 124 (.leaf 123 (.code aJP)) (.node 125 (.leaf 124 (.code aJQ)) (.leaf 125 (.code aJR)))))) (.node 133 (.node 129 (.node 127 (.leaf 126 (.code aJS)) (.node 128 (.leaf 127 (.code aJT)) (.leaf 128 (.code aJU)))) (.node 131 (.leaf 129 (.code aJV)) (.node 132 (.leaf 131 (.code aJW)) (.leaf 132 (.code aJX))))) (.node 136 (.node 134 (.leaf 133 (.code aJY)) (.node 135 (.leaf 134 (.code aJZ)) (.leaf 135 (.code aJ0)))) (.node 137 (.leaf 136 (.code aJ1)) (.node 138 (.leaf 137 (.code aJ2)) (.leaf 138 (.prim false (fP 3)))))))))) (.node 193 (.node 167 (.node 152 (.node 146 (.node 142 (.node 140 (.leaf 139 (.prim false (fP 3))) (.node 141 (.leaf 140 (.prim false (fP 5))) (.leaf 141 (.prim false (fP 1))))) (.node 143 (.leaf 142 (.code aJ3)) (.node 144 (.leaf 143 (.code aJ4)) (.leaf 144 (.code aJ5))))) (.node 149 (.node 147 (.leaf 146 (.code aJ6)) (.node 148 (.leaf 147 (.code aJ7)) (.leaf 148 (.code aJ8)))) (.node 150 (.leaf 149 (.code aJ9)) (.node 151 (.leaf 150 (.code aKa)) (.leaf 151 (.code aKb)))))) (.node 160 (.node 157 (.node 153 (.leaf 152 (.code aKc)) (.node 154 (.leaf 153 (.code aKd)) (.leaf 154 (.code aKe)))) (.node 158 (.leaf 157 (.code aKf)) (.node 159 (.leaf 158 (.code aKg)) (.leaf 159 (.code aKh))))) (.node 163 (.node 161 (.leaf 160 (.code aKi)) (.node 162 (.leaf 161 (.code aKj)) (.leaf 162 (.code aKk)))) (.node 164 (.leaf 163 (.code aKl)) (.node 166 (.leaf 164 (.code aKm)) (.leaf 166 (.code aKn))))))) (.node 179 (.node 173 (.node 170 (.node 168 (.leaf 167 (.code aKo)) (.node 169 (.leaf 168 (.code aKp)) (.leaf 169 (.code aKq)))) (.node 171 (.leaf 170 (.code aKr)) (.node 172 (.leaf 171 (.code aKs)) (.leaf 172 (.code aKt))))) (.node 176 (.node 174 (.leaf 173 (.code aKu)) (.node 175 (.leaf 174 (.code aKv)) (.leaf 175 (.code aKw)))) (.node 177 (.leaf 176 (.code aKx)) (.node 178 (.leaf 177 (.code aKy)) (.leaf 178 (.code aKz)))))) (.node 187 (.node 184 (.node 180 (.leaf 179 (.code aKA)) (.node 183 (.leaf 180 (.code aKB)) (.leaf 183 (.code aKC)))) (.node 185 (.leaf 184 (.code aKD)) (.node 186 (.leaf 185 (.code aKE)) (.leaf 186 (.code aKF))))) (.node 190 (.node 188 (.leaf 187 (.code aKG)) (.node 189 (.leaf 188 (.code aKH)) (.leaf 189 (.code aKI)))) (.node 191 (.leaf 190 (.code aKJ)) (.node 192 (.leaf 191 (.code aKK)) (.leaf 192 (.code aKL)))))))) (.node 220 (.node 206 (.node 200 (.node 196 (.node 194 (.leaf 193 (.code aKM)) (.node 195 (.leaf 194 (.code aKN)) (.leaf 195 (.code aKO)))) (.node 198 (.leaf 196 (.code aKP)) (.node 199 (.leaf 198 (.code aKQ)) (.leaf 199 (.code aKR))))) (.node 203 (.node 201 (.leaf 200 (.code aKS)) (.node 202 (.leaf 201 (.code aKT)) (.leaf 202 (.code YH)))) (.node 204 (.leaf 203 (.code aKU)) (.node 205 (.leaf 204 (.code aKV)) (.leaf 205 (.code aKW)))))) (.node 213 (.node 210 (.node 207 (.leaf 206 (.code aKX)) (.node 208 (.leaf 207 (.code aKY)) (.leaf 208 (.code aKZ)))) (.node 211 (.leaf 210 (.code aDw)) (.node 212 (.leaf 211 (.code aDy)) (.leaf 212 (.code aK0))))) (.node 216 (.node 214 (.leaf 213 (.code aK1)) (.node 215 (.leaf 214 (.code aK2)) (.leaf 215 (.code aK3)))) (.node 218 (.leaf 216 (.code aK4)) (.node 219 (.leaf 218 (.code aK5)) (.leaf 219 (.code aK6))))))) (.node 233 (.node 227 (.node 223 (.node 221 (.leaf 220 (.code aK7)) (.node 222 (.leaf 221 (.code aK8)) (.leaf 222 (.code aK9)))) (.node 224 (.leaf 223 (.code aLa)) (.node 225 (.leaf 224 (.code aLb)) (.leaf 225 (.prim false EA))))) (.node 230 (.node 228 (.leaf 227 (.code aLc)) (.node 229 (.leaf 228 (.code aLd)) (.leaf 229 (.code aLe)))) (.node 231 (.leaf 230 (.code aLf)) (.node 232 (.leaf 231 (.code aAo)) (.leaf 232 (.code aLg)))))) (.node 240 (.node 236 (.node 234 (.leaf 233 (.code aDS)) (.node 235 (.leaf 234 (.code aLh)) (.leaf 235 (.code aLi)))) (.node 237 (.leaf 236 (.code aLj)) (.node 239 (.leaf 237 (.code aLk)) (.leaf 239 (.code aLl))))) (.node 243 (.node 241 (.leaf 240 (.code aLm)) (.node 242 (.leaf 241 (.prim false (fP 1))) (.leaf 242 (.code aLn)))) (.node 244 (.leaf 243 (.code aLo)) (.node 245 (.leaf 244 (.code aLp)) (.leaf 245 (.code aLq)))))))))
theorem V3:aNX.All (BV Go.Proofs.Tryz.prog):=⟨⟨⟨⟨⟨⟨⟨aNU,⟨aNV,aNW⟩⟩,⟨aIB,⟨aIC,aID⟩⟩⟩,⟨⟨aIE,⟨aIF,aIG⟩⟩,⟨aIH,⟨aII,aIJ⟩⟩⟩⟩,⟨⟨⟨aIK,⟨aLr,aIL⟩⟩,⟨aIM,⟨aIN,aIO⟩⟩⟩,⟨⟨aIP,⟨aIQ,aIR⟩⟩,⟨aIS,⟨aIT,aIU⟩⟩⟩⟩⟩,⟨⟨⟨⟨aIV,⟨aIW,aIX⟩⟩,⟨aIY,⟨aIZ,aI0⟩⟩⟩,⟨⟨aI1,⟨aI2,aI3⟩⟩,⟨aI4,⟨aI5,aI6⟩⟩⟩⟩,⟨⟨⟨aI7,⟨aI8,aI9⟩⟩,⟨aJa,⟨aJb,aJc⟩⟩⟩,⟨⟨aJd,⟨aJe,aJf⟩⟩,⟨aJg,⟨aJh,aJi⟩⟩⟩⟩⟩⟩,⟨⟨⟨⟨⟨aJj,⟨aJk,aJl⟩⟩,⟨aJm,⟨aJn,aJo⟩⟩⟩,⟨⟨aJp,⟨aLs,aJq⟩⟩,⟨aJr,⟨aJs,aJt⟩⟩⟩⟩,⟨⟨⟨aJu,⟨aB0,aB1⟩⟩,⟨aB2,⟨aB3,aB4⟩⟩⟩,⟨⟨aB5,⟨aB6,aB7⟩⟩,⟨aB8,⟨aB9,aCa⟩⟩⟩⟩⟩,⟨⟨⟨⟨aCb,⟨aCc,aCd⟩⟩,⟨aCe,⟨aCf,aCg⟩⟩⟩,⟨⟨aCh,⟨aCi,aCj⟩⟩,⟨aCk,⟨aCl,aCm⟩⟩⟩⟩,⟨⟨⟨aCn,⟨aCo,aCp⟩⟩,⟨aCq,⟨aCr,aCs⟩⟩⟩,⟨⟨aCt,⟨aCu,aCv⟩⟩,⟨aCw,⟨aCx,aD4⟩⟩⟩⟩⟩⟩⟩,⟨⟨⟨⟨⟨⟨aD5,⟨aD6,aD7⟩⟩,⟨aCy,⟨aCz,aCA⟩⟩⟩,⟨⟨aCB,⟨aCC,aCD⟩⟩,⟨aCE,⟨aCF,aCG⟩⟩⟩⟩,⟨⟨⟨aCH,⟨aCI,aCJ⟩⟩,⟨aCK,⟨aCL,aCM⟩⟩⟩,⟨⟨aCN,⟨aCO,aCP⟩⟩,⟨aCQ,⟨aCR,aCS⟩⟩⟩⟩⟩,⟨⟨⟨⟨aCT,⟨aCU,aCV⟩⟩,⟨aCW,⟨aCX,aCY⟩⟩⟩,⟨⟨aCZ,⟨aC0,aC1⟩⟩,⟨aC2,⟨aC3,aC4⟩⟩⟩⟩,⟨⟨⟨aC5,⟨aC6,aC7⟩⟩,⟨aC8,⟨aC9,aDa⟩⟩⟩,⟨⟨aDb,⟨aDc,aDd⟩⟩,⟨aDe,⟨aDf,aDg⟩⟩⟩⟩⟩⟩,⟨⟨⟨⟨⟨aDh,⟨aDi,aDj⟩⟩,⟨aDk,⟨aDl,aDm⟩⟩⟩,⟨⟨aDn,⟨aDo,aDp⟩⟩,⟨aDq,⟨aDr,aDs⟩⟩⟩⟩,⟨⟨⟨aDt,⟨aDu,aDv⟩⟩,⟨aDx,⟨aDz,aDA⟩⟩⟩,⟨⟨aDB,⟨aDC,aDD⟩⟩,⟨aDE,⟨aDF,aDG⟩⟩⟩⟩⟩,⟨⟨⟨⟨aDH,⟨aDI,aDJ⟩⟩,⟨aDK,⟨aDL,aD8⟩⟩⟩,⟨⟨aDM,⟨aDN,aDO⟩⟩,⟨aDP,⟨aDQ,aDR⟩⟩⟩⟩,⟨⟨⟨aDT,⟨aDU,aDV⟩⟩,⟨aDW,⟨aDX,aDY⟩⟩⟩,⟨⟨aDZ,⟨aD9,aD0⟩⟩,⟨aD1,⟨aD2,aD3⟩⟩⟩⟩⟩⟩⟩⟩
def aX:oL:=aNX.get
theorem aIc:aX 4=some (.code x4):=rfl
theorem aNY:aX 7=some (.code x7):=rfl
theorem aId:aX 9=some (.code x9):=rfl
theorem aLt:aX 12=some (.code x12):=rfl
theorem aLu:aX 14=some (.code x14):=rfl
theorem aLv:aX 15=some (.code x15):=rfl
theorem aLw:aX 16=some (.code x16):=rfl
theorem aLx:aX 25=some (.code x25):=rfl
theorem aLy:aX 26=some (.code x26):=rfl
theorem aLz:aX 31=some (.code x31):=rfl
theorem aAp:aX 32=some (.code x32):=rfl
theorem aLA:aX 33=some (.code x33):=rfl
theorem aLB:aX 34=some (.code x34):=rfl
theorem aLC:aX 37=some (.prim false (fP 1)):=rfl
theorem aLD:aX 40=some (.code x40):=rfl
theorem aLE:aX 41=some (.code x41):=rfl
theorem aLF:aX 42=some (.code x42):=rfl
theorem aLG:aX 43=some (.code x43):=rfl
theorem aLH:aX 44=some (.code x44):=rfl
theorem aLI:aX 45=some (.code x45):=rfl
theorem aLJ:aX 46=some (.code x46):=rfl
theorem aLK:aX 47=some (.code x47):=rfl
theorem aLL:aX 48=some (.code x48):=rfl
theorem aLM:aX 49=some (.code x49):=rfl
theorem aLN:aX 52=some (.code x52):=rfl
theorem aLO:aX 53=some (.code x53):=rfl
theorem aLP:aX 54=some (.code x54):=rfl
theorem aLQ:aX 55=some (.code x55):=rfl
theorem aAq:aX 57=some (.code x57):=rfl
theorem aLR:aX 59=some (.code x59):=rfl
theorem aLS:aX 60=some (.code x60):=rfl
theorem aLT:aX 61=some (.code x61):=rfl
theorem aLU:aX 62=some (.code x62):=rfl
theorem aLV:aX 63=some (.code x63):=rfl
theorem aLW:aX 64=some (.code x64):=rfl
theorem aLX:aX 65=some (.code x65):=rfl
theorem aAr:aX 68=some (.code x68):=rfl
theorem aLY:aX 71=some (.code x71):=rfl
theorem aAs:aX 72=some (.code x72):=rfl
theorem aAt:aX 73=some (.code x73):=rfl
theorem aAu:aX 74=some (.code x74):=rfl
theorem aLZ:aX 75=some (.code x75):=rfl
theorem aL0:aX 76=some (.code x76):=rfl
theorem aL1:aX 77=some (.code x77):=rfl
theorem aL2:aX 78=some (.code x78):=rfl
theorem aL3:aX 79=some (.code x79):=rfl
theorem aL4:aX 80=some (.code x80):=rfl
theorem aAv:aX 83=some (.code x83):=rfl
theorem aL5:aX 84=some (.code x84):=rfl
theorem aL6:aX 87=some (.code x87):=rfl
theorem aL7:aX 89=some (.code x89):=rfl
theorem aL8:aX 90=some (.code x90):=rfl
theorem aL9:aX 91=some (.code x91):=rfl
theorem aMa:aX 92=some (.code x92):=rfl
theorem aMb:aX 93=some (.code x93):=rfl
theorem aMc:aX 94=some (.prim false (fP 3)):=rfl
theorem aMd:aX 95=some (.code x95):=rfl
theorem aMe:aX 96=some (.code x96):=rfl
theorem aMf:aX 97=some (.code x97):=rfl
theorem aMg:aX 98=some (.code x98):=rfl
theorem aMh:aX 99=some (.code x99):=rfl
theorem aEa:aX 100=some (.code aJv):=rfl
theorem aEb:aX 101=some (.code aJw):=rfl
theorem aEc:aX 102=some (.code aJx):=rfl
theorem aEd:aX 103=some (.code aJy):=rfl
theorem aEe:aX 104=some (.code aJz):=rfl
theorem aEf:aX 106=some (.code aJA):=rfl
theorem aEg:aX 107=some (.code aJB):=rfl
theorem aEh:aX 108=some (.code aJC):=rfl
theorem V4:aX 109=some (.code aJD):=rfl
theorem aEi:aX 110=some (.code aJE):=rfl
theorem aEj:aX 111=some (.code aJF):=rfl
theorem aEk:aX 112=some (.code aJG):=rfl
theorem aEl:aX 113=some (.code aJH):=rfl
theorem aEm:aX 114=some (.code aJI):=rfl
theorem aEn:aX 117=some (.code aJJ):=rfl
theorem aEo:aX 118=some (.code aJK):=rfl
theorem aEp:aX 119=some (.code aJL):=rfl
theorem aEq:aX 120=some (.code aJM):=rfl
theorem aEr:aX 121=some (.code aJN):=rfl
theorem aEs:aX 122=some (.code aJO):=rfl
theorem aEt:aX 123=some (.code aJP):=rfl
theorem aEu:aX 124=some (.code aJQ):=rfl
theorem aEv:aX 125=some (.code aJR):=rfl
theorem aEw:aX 126=some (.code aJS):=rfl
theorem aEx:aX 127=some (.code aJT):=rfl
theorem aEy:aX 128=some (.code aJU):=rfl
theorem aEz:aX 129=some (.code aJV):=rfl
theorem aEA:aX 131=some (.code aJW):=rfl
theorem aEB:aX 132=some (.code aJX):=rfl
theorem V5:aX 133=some (.code aJY):=rfl
theorem aEC:aX 134=some (.code aJZ):=rfl
theorem aED:aX 135=some (.code aJ0):=rfl
theorem aEE:aX 136=some (.code aJ1):=rfl
theorem aEF:aX 137=some (.code aJ2):=rfl
theorem aEG:aX 138=some (.prim false (fP 3)):=rfl
theorem aEH:aX 139=some (.prim false (fP 3)):=rfl
theorem aEI:aX 140=some (.prim false (fP 5)):=rfl
theorem aEJ:aX 141=some (.prim false (fP 1)):=rfl
theorem aEK:aX 142=some (.code aJ3):=rfl
theorem aEL:aX 143=some (.code aJ4):=rfl
theorem aEM:aX 144=some (.code aJ5):=rfl
theorem aEN:aX 146=some (.code aJ6):=rfl
theorem aEO:aX 147=some (.code aJ7):=rfl
theorem aEP:aX 148=some (.code aJ8):=rfl
theorem aEQ:aX 149=some (.code aJ9):=rfl
theorem aER:aX 150=some (.code aKa):=rfl
theorem aES:aX 151=some (.code aKb):=rfl
theorem aET:aX 152=some (.code aKc):=rfl
theorem aEU:aX 153=some (.code aKd):=rfl
theorem V6:aX 154=some (.code aKe):=rfl
theorem aEV:aX 157=some (.code aKf):=rfl
theorem aEW:aX 158=some (.code aKg):=rfl
theorem aEX:aX 159=some (.code aKh):=rfl
theorem aEY:aX 160=some (.code aKi):=rfl
theorem aEZ:aX 161=some (.code aKj):=rfl
theorem V7:aX 162=some (.code aKk):=rfl
theorem aE0:aX 163=some (.code aKl):=rfl
theorem aE1:aX 164=some (.code aKm):=rfl
theorem aE2:aX 166=some (.code aKn):=rfl
theorem aE3:aX 167=some (.code aKo):=rfl
theorem aE4:aX 168=some (.code aKp):=rfl
theorem aE5:aX 169=some (.code aKq):=rfl
theorem aE6:aX 170=some (.code aKr):=rfl
theorem aE7:aX 171=some (.code aKs):=rfl
theorem aE8:aX 172=some (.code aKt):=rfl
theorem aE9:aX 173=some (.code aKu):=rfl
theorem aFa:aX 174=some (.code aKv):=rfl
theorem aFb:aX 175=some (.code aKw):=rfl
theorem aFc:aX 176=some (.code aKx):=rfl
theorem aFd:aX 177=some (.code aKy):=rfl
theorem V8:aX 178=some (.code aKz):=rfl
theorem aFe:aX 179=some (.code aKA):=rfl
theorem aFf:aX 180=some (.code aKB):=rfl
theorem aFg:aX 183=some (.code aKC):=rfl
theorem aFh:aX 184=some (.code aKD):=rfl
theorem aFi:aX 185=some (.code aKE):=rfl
theorem aFj:aX 186=some (.code aKF):=rfl
theorem aFk:aX 187=some (.code aKG):=rfl
theorem aFl:aX 188=some (.code aKH):=rfl
theorem aFm:aX 189=some (.code aKI):=rfl
theorem aFn:aX 190=some (.code aKJ):=rfl
theorem aFo:aX 191=some (.code aKK):=rfl
theorem aFp:aX 192=some (.code aKL):=rfl
theorem aFq:aX 193=some (.code aKM):=rfl
theorem aFr:aX 194=some (.code aKN):=rfl
theorem aFs:aX 195=some (.code aKO):=rfl
theorem aFt:aX 196=some (.code aKP):=rfl
theorem aFu:aX 198=some (.code aKQ):=rfl
theorem aFv:aX 199=some (.code aKR):=rfl
theorem aFw:aX 200=some (.code aKS):=rfl
theorem aFx:aX 201=some (.code aKT):=rfl
theorem OP:aX 202=some (.code YH):=rfl
theorem V9:aX 203=some (.code aKU):=rfl
theorem aFy:aX 204=some (.code aKV):=rfl
theorem aFz:aX 205=some (.code aKW):=rfl
theorem aFA:aX 206=some (.code aKX):=rfl
theorem aFB:aX 207=some (.code aKY):=rfl
theorem aFC:aX 208=some (.code aKZ):=rfl
theorem aFD:aX 210=some (.code aDw):=rfl
theorem aFE:aX 211=some (.code aDy):=rfl
theorem aFF:aX 212=some (.code aK0):=rfl
theorem aFG:aX 213=some (.code aK1):=rfl
theorem aFH:aX 214=some (.code aK2):=rfl
theorem aFI:aX 215=some (.code aK3):=rfl
theorem aFJ:aX 216=some (.code aK4):=rfl
theorem aFK:aX 218=some (.code aK5):=rfl
theorem aFL:aX 219=some (.code aK6):=rfl
theorem OQ:aX 220=some (.code aK7):=rfl
theorem aFM:aX 221=some (.code aK8):=rfl
theorem WA:aX 222=some (.code aK9):=rfl
theorem OR:aX 223=some (.code aLa):=rfl
theorem aFN:aX 224=some (.code aLb):=rfl
theorem aFO:aX 225=some (.prim false EA):=rfl
theorem aFP:aX 227=some (.code aLc):=rfl
theorem WB:aX 228=some (.code aLd):=rfl
theorem aFQ:aX 229=some (.code aLe):=rfl
theorem aFR:aX 230=some (.code aLf):=rfl
theorem WC:aX 231=some (.code aAo):=rfl
theorem aFS:aX 232=some (.code aLg):=rfl
theorem aFT:aX 233=some (.code aDS):=rfl
theorem aFU:aX 234=some (.code aLh):=rfl
theorem aFV:aX 235=some (.code aLi):=rfl
theorem aFW:aX 236=some (.code aLj):=rfl
theorem aFX:aX 237=some (.code aLk):=rfl
theorem aFY:aX 239=some (.code aLl):=rfl
theorem aFZ:aX 240=some (.code aLm):=rfl
theorem aF0:aX 241=some (.prim false (fP 1)):=rfl
theorem aF1:aX 242=some (.code aLn):=rfl
theorem aF2:aX 243=some (.code aLo):=rfl
theorem aF3:aX 244=some (.code aLp):=rfl
theorem aF4:aX 245=some (.code aLq):=rfl
end Go.Proofs.YtmlghnibpjlchaaGreat
