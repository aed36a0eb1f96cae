/- The table of the seat's functions. Printed by a program. -/
import Derived.Test.YticklbjcnimggaaGreatEQX1
import Derived.Test.YticklbjcnimggaaGreatEQX2
import Derived.Test.YticklbjcnimggaaGreatChecked
set_option maxRecDepth 100000
namespace Go.Proofs.YticklbjcnimggaaGreat
open Go.Vm
theorem mL:Go.Proofs.Tryz.prog.follows .mixedOrders=true:=Go.Proofs.Tryz.checked.mixed
theorem aK8:BP Go.Proofs.Tryz.prog 64 (.prim false (fL 3)):=⟨rfl,oP mL (zero:=[.int .i64 0,.int .i64 0,.int .i64 0]) (by decide+kernel)⟩
theorem aDT:BP Go.Proofs.Tryz.prog 127 (.prim false (fL 3)):=⟨rfl,oP mL (zero:=[.int .i64 0,.int .i64 0,.int .i64 0]) (by decide+kernel)⟩
theorem aDU:BP Go.Proofs.Tryz.prog 128 (.prim false (fL 3)):=⟨rfl,oP mL (zero:=[.int .i64 0,.int .i64 0,.int .i64 0]) (by decide+kernel)⟩
theorem aDV:BP Go.Proofs.Tryz.prog 129 (.prim false (fL 5)):=⟨rfl,oP mL (zero:=[.int .i64 0,.int .i64 0,.int .i64 0,.int .i64 0,.int .i64 0]) (by decide+kernel)⟩
theorem aDW:BP Go.Proofs.Tryz.prog 130 (.prim false (fL 1)):=⟨rfl,oP mL (zero:=[.int .i64 0]) (by decide+kernel)⟩
theorem aDX:BP Go.Proofs.Tryz.prog 131 (.prim false (fL 1)):=⟨rfl,oP mL (zero:=[.bool false]) (by decide+kernel)⟩
theorem aDY:BP Go.Proofs.Tryz.prog 215 (.prim false D6):=⟨rfl,TB Go.Proofs.Tryz.func215 (by kernel_rfl) (by kernel_rfl) (by kernel_rfl) (by kernel_rfl)⟩
theorem aDZ:BP Go.Proofs.Tryz.prog 228 (.prim false (fL 1)):=⟨rfl,oP mL (zero:=[.int .i64 0]) (by decide+kernel)⟩
def aNP:TT:= .node 127 (.node 71 (.node 45 (.node 27 (.node 15 (.node 8 (.node 6 (.leaf 3 (.code x3)) (.node 7 (.leaf 6 (.code x6)) (.leaf 7 (.code x7)))) (.node 9 (.leaf 8 (.code x8)) (.node 10 (.leaf 9 (.code x9)) (.leaf 10 (.code x10))))) (.node 24 (.node 22 (.leaf 15 (.code x15)) (.node 23 (.leaf 22 (.code x22)) (.leaf 23 (.code x23)))) (.node 25 (.leaf 24 (.code x24)) (.node 26 (.leaf 25 (.code x25)) (.leaf 26 (.code x26)))))) (.node 33 (.node 30 (.node 28 (.leaf 27 (.code x27)) (.node 29 (.leaf 28 (.code x28)) (.leaf 29 (.code x29)))) (.node 31 (.leaf 30 (.code x30)) (.node 32 (.leaf 31 (.code x31)) (.leaf 32 (.code x32))))) (.node 36 (.node 34 (.leaf 33 (.code x33)) (.node 35 (.leaf 34 (.code x34)) (.leaf 35 (.code x35)))) (.node 40 (.leaf 36 (.code x36)) (.node 44 (.leaf 40 (.code x40)) (.leaf 44 (.code x44))))))) (.node 59 (.node 53 (.node 50 (.node 47 (.leaf 45 (.code x45)) (.node 49 (.leaf 47 (.code x47)) (.leaf 49 (.code x49)))) (.node 51 (.leaf 50 (.code x50)) (.node 52 (.leaf 51 (.code x51)) (.leaf 52 (.code x52))))) (.node 56 (.node 54 (.leaf 53 (.code x53)) (.node 55 (.leaf 54 (.code x54)) (.leaf 55 (.code x55)))) (.node 57 (.leaf 56 (.code x56)) (.node 58 (.leaf 57 (.code x57)) (.leaf 58 (.code x58)))))) (.node 65 (.node 62 (.node 60 (.leaf 59 (.code x59)) (.node 61 (.leaf 60 (.code x60)) (.leaf 61 (.code x61)))) (.node 63 (.leaf 62 (.code x62)) (.node 64 (.leaf 63 (.code x63)) (.leaf 64 (.prim false (fL 3)))))) (.node 68 (.node 66 (.leaf 65 (.code x65)) (.node 67 (.leaf 66 (.code x66)) (.leaf 67 (.code x67)))) (.node 69 (.leaf 68 (.code x68)) (.node 70 (.leaf 69 (.code x69)) (.leaf 70 (.code x70)))))))) (.node 102 (.node 88 (.node 78 (.node 74 (.node 72 (.leaf 71 (.code x71)) (.node 73 (.leaf 72 (.code x72)) (.leaf 73 (.code x73)))) (.node 75 (.leaf 74 (.code x74)) (.node 76 (.leaf 75 (.code x75)) (.leaf 76 (.code x76))))) (.node 84 (.node 79 (.leaf 78 (.code x78)) (.node 80 (.leaf 79 (.code x79)) (.leaf 80 (.code x80)))) (.node 86 (.leaf 84 (.code x84)) (.node 87 (.leaf 86 (.code x86)) (.leaf 87 (.code x87)))))) (.node 96 (.node 93 (.node 91 (.leaf 88 (.code x88)) (.node 92 (.leaf 91 (.code x91)) (.leaf 92 (.code x92)))) (.node 94 (.leaf 93 (.code x93)) (.node 95 (.leaf 94 (.code x94)) (.leaf 95 (.code x95))))) (.node 99 (.node 97 (.leaf 96 (.code x96)) (.node 98 (.leaf 97 (.code x97)) (.leaf 98 (.code x98)))) (.node 100 (.leaf 99 (.code x99)) (.node 101 (.leaf 100 (.code aJm)) (.leaf 101 (.code aJn))))))) (.node 114 (.node 108 (.node 105 (.node 103 (.leaf 102 (.code aJo)) (.node 104 (.leaf 103 (.code aJp)) (.leaf 104 (.code aJq)))) (.node 106 (.leaf 105 (.code aJr)) (.node 107 (.leaf 106 (.code aJs)) (.leaf 107 (.code aJt))))) (.node 111 (.node 109 (.leaf 108 (.code aJu)) (.node 110 (.leaf 109 (.code aJv)) (.leaf 110 (.code aJw)))) (.node 112 (.leaf 111 (.code aJx)) (.node 113 (.leaf 112 (.code aJy)) (.leaf 113 (.code aJz)))))) (.node 120 (.node 117 (.node 115 (.leaf 114 (.code aJA)) (.node 116 (.leaf 115 (.code aJB)) (.leaf 116 (.code aJC)))) (.node 118 (.leaf 117 (.code aJD)) (.node 119 (.leaf 118 (.code aJE)) (.leaf 119 (.code aJF))))) (.node 124 (.node 121 (.leaf 120 (.code aJG)) (.node 123 (.leaf 121 (.code aJH)) (.leaf 123 (.code aJI)))) (.node 125 (.leaf 124 (.code aJJ)) (.node 126 (.leaf 125 (.code aJK)) (.leaf 126 (.code aJL))))))))) (.node 179 (.node 155 (.node 143 (.node 133 (.node 130 (.node 128 (.leaf 127 (.prim false (fL 3))) (.node 129 (.leaf 128 (.prim false (fL 3))) (.leaf 129 (.prim false (fL 5))))) (.node 131 (.leaf 130 (.prim false (fL 1))) (.node 132 (.leaf 131 (.prim false (fL 1))) (.leaf 132 (.code aJM))))) (.node 140 (.node 134 (.leaf 133 (.code aJN)) (.node 136 (.leaf 134 (.code aJO)) (.leaf 136 (.code aJP)))) (.node 141 (.leaf 140 (.code aJQ)) (.node 142 (.leaf 141 (.code aJR)) (.leaf 142 (.code aJS)))))) (.node 149 (.node 146 (.node 144 (.leaf 143 (.code aJT)) (.node 145 (.leaf 144 (.code aJU)) (.leaf 145 (.code aJV)))) (.node 147 (.leaf 146 (.code aJW)) (.node 148 (.leaf 147 (.code aJX)) (.leaf 148 (.code aJY))))) (.node 152 (.node 150 (.leaf 149 (.code aJZ)) (.node 151 (.leaf 150 (.code aJ0)) (.leaf 151 (.code aJ1)))) (.node 153 (.leaf 152 (.code aJ2)) (.node 154 (.leaf 153 (.code aJ3)) (.leaf 154 (.code aJ4))))))) (.node 167 (.node 161 (.node 158 (.node 156 (.leaf 155 (.code aJ5)) (.node 157 (.leaf 156 (.code aJ6)) (.leaf 157 (.code aJ7)))) (.node 159 (.leaf 158 (.code aJ8)) (.node 160 (.leaf 159 (.code aJ9)) (.leaf 160 (.code aKa))))) (.node 164 (.node 162 (.leaf 161 (.code aKb)) (.node 163 (.leaf 162 (.code aKc)) (.leaf 163 (.code aKd)))) (.node 165 (.leaf 164 (.code aKe)) (.node 166 (.leaf 165 (.code aKf)) (.leaf 166 (.code aKg)))))) (.node 173 (.node 170 (.node 168 (.leaf 167 (.code aKh)) (.node 169 (.leaf 168 (.code aKi)) (.leaf 169 (.code aKj)))) (.node 171 (.leaf 170 (.code aKk)) (.node 172 (.leaf 171 (.code aKl)) (.leaf 172 (.code aKm))))) (.node 176 (.node 174 (.leaf 173 (.code aKn)) (.node 175 (.leaf 174 (.code aKo)) (.leaf 175 (.code aKp)))) (.node 177 (.leaf 176 (.code aKq)) (.node 178 (.leaf 177 (.code aKr)) (.leaf 178 (.code aKs)))))))) (.node 204 (.node 192 (.node 186 (.node 183 (.node 180 (.leaf 179 (.code aKt)) (.node 181 (.leaf 180 (.code aKu)) (.leaf 181 (.code aKv)))) (.node 184 (.leaf 183 (.code aKw)) (.node 185 (.leaf 184 (.code aDa)) (.leaf 185 (.code aDc))))) (.node 189 (.node 187 (.leaf 186 (.code aKx)) (.node 188 (.leaf 187 (.code aKy)) (.leaf 188 (.code aKz)))) (.node 190 (.leaf 189 (.code aKA)) (.node 191 (.leaf 190 (.code aKB)) (.leaf 191 (.code aKC)))))) (.node 198 (.node 195 (.node 193 (.leaf 192 (.code aKD)) (.node 194 (.leaf 193 (.code aKE)) (.leaf 194 (.code aKF)))) (.node 196 (.leaf 195 (.code aKG)) (.node 197 (.leaf 196 (.code aKH)) (.leaf 197 (.code aKI))))) (.node 201 (.node 199 (.leaf 198 (.code aKJ)) (.node 200 (.leaf 199 (.code aKK)) (.leaf 200 (.code aKL)))) (.node 202 (.leaf 201 (.code aKM)) (.node 203 (.leaf 202 (.code aKN)) (.leaf 203 (.code aKO))))))) (.node 217 (.node 211 (.node 207 (.node 205 (.leaf 204 (.code aKP)) (.node 206 (.leaf 205 (.code aKQ)) (.leaf 206 (.code aKR)))) (.node 208 (.leaf 207 (.code YI)) (.node 210 (.leaf 208 (.code aKS)) (.leaf 210 (.code aKT))))) (.node 214 (.node 212 (.leaf 211 (.code aDC)) (.node 213 (.leaf 212 (.code aKU)) (.leaf 213 (.code aKV)))) (.node 215 (.leaf 214 (.code aKW)) (.node 216 (.leaf 215 (.prim false D6)) (.leaf 216 (.code aKX)))))) (.node 223 (.node 220 (.node 218 (.leaf 217 (.code aKY)) (.node 219 (.leaf 218 (.code aKZ)) (.leaf 219 (.code aK0)))) (.node 221 (.leaf 220 (.code aAp)) (.node 222 (.leaf 221 (.code aK1)) (.leaf 222 (.code aK2))))) (.node 226 (.node 224 (.leaf 223 (.code aK3)) (.node 225 (.leaf 224 (.code aK4)) (.leaf 225 (.code aK5)))) (.node 227 (.leaf 226 (.code aK6)) (.node 228 (.leaf 227 (.code aK7)) (.leaf 228 (.prim false (fL 1))))))))))
theorem V4:aNP.All (BP Go.Proofs.Tryz.prog):=⟨⟨⟨⟨⟨⟨⟨aNK,⟨aNL,aNM⟩⟩,⟨aNN,⟨aNO,aIk⟩⟩⟩,⟨⟨aIl,⟨aIm,aIn⟩⟩,⟨aIo,⟨aIp,aIq⟩⟩⟩⟩,⟨⟨⟨aIr,⟨aIs,aIt⟩⟩,⟨aIu,⟨aIv,aIw⟩⟩⟩,⟨⟨aIx,⟨aIy,aIz⟩⟩,⟨aIA,⟨aIB,aIC⟩⟩⟩⟩⟩,⟨⟨⟨⟨aID,⟨aIE,aIF⟩⟩,⟨aIG,⟨aIH,aII⟩⟩⟩,⟨⟨aIJ,⟨aIK,aIL⟩⟩,⟨aIM,⟨aIN,aIO⟩⟩⟩⟩,⟨⟨⟨aIP,⟨aIQ,aIR⟩⟩,⟨aIS,⟨aIT,aK8⟩⟩⟩,⟨⟨aIU,⟨aIV,aIW⟩⟩,⟨aIX,⟨aIY,aIZ⟩⟩⟩⟩⟩⟩,⟨⟨⟨⟨⟨aI0,⟨aI1,aI2⟩⟩,⟨aI3,⟨aI4,aI5⟩⟩⟩,⟨⟨aI6,⟨aI7,aI8⟩⟩,⟨aI9,⟨aJa,aJb⟩⟩⟩⟩,⟨⟨⟨aJc,⟨aJd,aJe⟩⟩,⟨aJf,⟨aJg,aJh⟩⟩⟩,⟨⟨aJi,⟨aJj,aJk⟩⟩,⟨aJl,⟨aBZ,aB0⟩⟩⟩⟩⟩,⟨⟨⟨⟨aB1,⟨aB2,aB3⟩⟩,⟨aB4,⟨aB5,aB6⟩⟩⟩,⟨⟨aB7,⟨aB8,aB9⟩⟩,⟨aCa,⟨aCb,aCc⟩⟩⟩⟩,⟨⟨⟨aCd,⟨aCe,aCf⟩⟩,⟨aCg,⟨aCh,aCi⟩⟩⟩,⟨⟨aCj,⟨aCk,aCl⟩⟩,⟨aCm,⟨aCn,aCo⟩⟩⟩⟩⟩⟩⟩,⟨⟨⟨⟨⟨⟨aDT,⟨aDU,aDV⟩⟩,⟨aDW,⟨aDX,aCp⟩⟩⟩,⟨⟨aCq,⟨aCr,aCs⟩⟩,⟨aCt,⟨aCu,aCv⟩⟩⟩⟩,⟨⟨⟨aCw,⟨aCx,aCy⟩⟩,⟨aCz,⟨aCA,aCB⟩⟩⟩,⟨⟨aCC,⟨aCD,aCE⟩⟩,⟨aCF,⟨aCG,aCH⟩⟩⟩⟩⟩,⟨⟨⟨⟨aCI,⟨aCJ,aCK⟩⟩,⟨aCL,⟨aCM,aCN⟩⟩⟩,⟨⟨aCO,⟨aCP,aCQ⟩⟩,⟨aCR,⟨aCS,aCT⟩⟩⟩⟩,⟨⟨⟨aCU,⟨aCV,aCW⟩⟩,⟨aCX,⟨aCY,aCZ⟩⟩⟩,⟨⟨aC0,⟨aC1,aC2⟩⟩,⟨aC3,⟨aC4,aC5⟩⟩⟩⟩⟩⟩,⟨⟨⟨⟨⟨aC6,⟨aC7,aC8⟩⟩,⟨aC9,⟨aDb,aDd⟩⟩⟩,⟨⟨aDe,⟨aDf,aDg⟩⟩,⟨aDh,⟨aDi,aDj⟩⟩⟩⟩,⟨⟨⟨aDk,⟨aDl,aDm⟩⟩,⟨aDn,⟨aDo,aDp⟩⟩⟩,⟨⟨aDq,⟨aDr,aDs⟩⟩,⟨aDt,⟨aDu,aDv⟩⟩⟩⟩⟩,⟨⟨⟨⟨aDw,⟨aDx,aDy⟩⟩,⟨aDz,⟨aDA,aDB⟩⟩⟩,⟨⟨aDD,⟨aDE,aDF⟩⟩,⟨aDG,⟨aDY,aDH⟩⟩⟩⟩,⟨⟨⟨aDI,⟨aDJ,aDK⟩⟩,⟨aDL,⟨aDM,aDN⟩⟩⟩,⟨⟨aDO,⟨aDP,aDQ⟩⟩,⟨aDR,⟨aDS,aDZ⟩⟩⟩⟩⟩⟩⟩⟩
def aU:oO:=aNP.get
theorem aHS:aU 3=some (.code x3):=rfl
theorem aNQ:aU 6=some (.code x6):=rfl
theorem aHT:aU 7=some (.code x7):=rfl
theorem aNR:aU 8=some (.code x8):=rfl
theorem aNS:aU 9=some (.code x9):=rfl
theorem aK9:aU 10=some (.code x10):=rfl
theorem aLa:aU 15=some (.code x15):=rfl
theorem aLb:aU 22=some (.code x22):=rfl
theorem aLc:aU 23=some (.code x23):=rfl
theorem aLd:aU 24=some (.code x24):=rfl
theorem aLe:aU 25=some (.code x25):=rfl
theorem aAq:aU 26=some (.code x26):=rfl
theorem aAr:aU 27=some (.code x27):=rfl
theorem aLf:aU 28=some (.code x28):=rfl
theorem aLg:aU 29=some (.code x29):=rfl
theorem aLh:aU 30=some (.code x30):=rfl
theorem aLi:aU 31=some (.code x31):=rfl
theorem aLj:aU 32=some (.code x32):=rfl
theorem aLk:aU 33=some (.code x33):=rfl
theorem aLl:aU 34=some (.code x34):=rfl
theorem aLm:aU 35=some (.code x35):=rfl
theorem aLn:aU 36=some (.code x36):=rfl
theorem aLo:aU 40=some (.code x40):=rfl
theorem aLp:aU 44=some (.code x44):=rfl
theorem aLq:aU 45=some (.code x45):=rfl
theorem aLr:aU 47=some (.code x47):=rfl
theorem aLs:aU 49=some (.code x49):=rfl
theorem aLt:aU 50=some (.code x50):=rfl
theorem aLu:aU 51=some (.code x51):=rfl
theorem aLv:aU 52=some (.code x52):=rfl
theorem aLw:aU 53=some (.code x53):=rfl
theorem aLx:aU 54=some (.code x54):=rfl
theorem aLy:aU 55=some (.code x55):=rfl
theorem aAs:aU 56=some (.code x56):=rfl
theorem aAt:aU 57=some (.code x57):=rfl
theorem aAu:aU 58=some (.code x58):=rfl
theorem aLz:aU 59=some (.code x59):=rfl
theorem aLA:aU 60=some (.code x60):=rfl
theorem aLB:aU 61=some (.code x61):=rfl
theorem aLC:aU 62=some (.code x62):=rfl
theorem aLD:aU 63=some (.code x63):=rfl
theorem aLE:aU 64=some (.prim false (fL 3)):=rfl
theorem aLF:aU 65=some (.code x65):=rfl
theorem aLG:aU 66=some (.code x66):=rfl
theorem aLH:aU 67=some (.code x67):=rfl
theorem aLI:aU 68=some (.code x68):=rfl
theorem aLJ:aU 69=some (.code x69):=rfl
theorem aLK:aU 70=some (.code x70):=rfl
theorem aLL:aU 71=some (.code x71):=rfl
theorem aLM:aU 72=some (.code x72):=rfl
theorem aLN:aU 73=some (.code x73):=rfl
theorem aLO:aU 74=some (.code x74):=rfl
theorem aLP:aU 75=some (.code x75):=rfl
theorem aLQ:aU 76=some (.code x76):=rfl
theorem aLR:aU 78=some (.code x78):=rfl
theorem aAv:aU 79=some (.code x79):=rfl
theorem aLS:aU 80=some (.code x80):=rfl
theorem aLT:aU 84=some (.code x84):=rfl
theorem aLU:aU 86=some (.code x86):=rfl
theorem aLV:aU 87=some (.code x87):=rfl
theorem aLW:aU 88=some (.code x88):=rfl
theorem aLX:aU 91=some (.code x91):=rfl
theorem aLY:aU 92=some (.code x92):=rfl
theorem aLZ:aU 93=some (.code x93):=rfl
theorem aL0:aU 94=some (.code x94):=rfl
theorem aL1:aU 95=some (.code x95):=rfl
theorem TX:aU 96=some (.code x96):=rfl
theorem aL2:aU 97=some (.code x97):=rfl
theorem aL3:aU 98=some (.code x98):=rfl
theorem aL4:aU 99=some (.code x99):=rfl
theorem aD0:aU 100=some (.code aJm):=rfl
theorem aD1:aU 101=some (.code aJn):=rfl
theorem aD2:aU 102=some (.code aJo):=rfl
theorem aD3:aU 103=some (.code aJp):=rfl
theorem aD4:aU 104=some (.code aJq):=rfl
theorem aD5:aU 105=some (.code aJr):=rfl
theorem V5:aU 106=some (.code aJs):=rfl
theorem aD6:aU 107=some (.code aJt):=rfl
theorem aD7:aU 108=some (.code aJu):=rfl
theorem aD8:aU 109=some (.code aJv):=rfl
theorem aD9:aU 110=some (.code aJw):=rfl
theorem V6:aU 111=some (.code aJx):=rfl
theorem aEa:aU 112=some (.code aJy):=rfl
theorem aEb:aU 113=some (.code aJz):=rfl
theorem aEc:aU 114=some (.code aJA):=rfl
theorem aEd:aU 115=some (.code aJB):=rfl
theorem aEe:aU 116=some (.code aJC):=rfl
theorem aEf:aU 117=some (.code aJD):=rfl
theorem aEg:aU 118=some (.code aJE):=rfl
theorem aEh:aU 119=some (.code aJF):=rfl
theorem aEi:aU 120=some (.code aJG):=rfl
theorem aEj:aU 121=some (.code aJH):=rfl
theorem aEk:aU 123=some (.code aJI):=rfl
theorem aEl:aU 124=some (.code aJJ):=rfl
theorem aEm:aU 125=some (.code aJK):=rfl
theorem aEn:aU 126=some (.code aJL):=rfl
theorem aEo:aU 127=some (.prim false (fL 3)):=rfl
theorem aEp:aU 128=some (.prim false (fL 3)):=rfl
theorem aEq:aU 129=some (.prim false (fL 5)):=rfl
theorem aEr:aU 130=some (.prim false (fL 1)):=rfl
theorem aEs:aU 131=some (.prim false (fL 1)):=rfl
theorem aEt:aU 132=some (.code aJM):=rfl
theorem aEu:aU 133=some (.code aJN):=rfl
theorem aEv:aU 134=some (.code aJO):=rfl
theorem aEw:aU 136=some (.code aJP):=rfl
theorem aEx:aU 140=some (.code aJQ):=rfl
theorem aEy:aU 141=some (.code aJR):=rfl
theorem aEz:aU 142=some (.code aJS):=rfl
theorem aEA:aU 143=some (.code aJT):=rfl
theorem aEB:aU 144=some (.code aJU):=rfl
theorem aEC:aU 145=some (.code aJV):=rfl
theorem aED:aU 146=some (.code aJW):=rfl
theorem OM:aU 147=some (.code aJX):=rfl
theorem aEE:aU 148=some (.code aJY):=rfl
theorem aEF:aU 149=some (.code aJZ):=rfl
theorem aEG:aU 150=some (.code aJ0):=rfl
theorem aEH:aU 151=some (.code aJ1):=rfl
theorem aEI:aU 152=some (.code aJ2):=rfl
theorem aEJ:aU 153=some (.code aJ3):=rfl
theorem aEK:aU 154=some (.code aJ4):=rfl
theorem aEL:aU 155=some (.code aJ5):=rfl
theorem aEM:aU 156=some (.code aJ6):=rfl
theorem aEN:aU 157=some (.code aJ7):=rfl
theorem aEO:aU 158=some (.code aJ8):=rfl
theorem aEP:aU 159=some (.code aJ9):=rfl
theorem aEQ:aU 160=some (.code aKa):=rfl
theorem aER:aU 161=some (.code aKb):=rfl
theorem V7:aU 162=some (.code aKc):=rfl
theorem aES:aU 163=some (.code aKd):=rfl
theorem aET:aU 164=some (.code aKe):=rfl
theorem aEU:aU 165=some (.code aKf):=rfl
theorem aEV:aU 166=some (.code aKg):=rfl
theorem aEW:aU 167=some (.code aKh):=rfl
theorem aEX:aU 168=some (.code aKi):=rfl
theorem aEY:aU 169=some (.code aKj):=rfl
theorem aEZ:aU 170=some (.code aKk):=rfl
theorem aE0:aU 171=some (.code aKl):=rfl
theorem aE1:aU 172=some (.code aKm):=rfl
theorem aE2:aU 173=some (.code aKn):=rfl
theorem aE3:aU 174=some (.code aKo):=rfl
theorem aE4:aU 175=some (.code aKp):=rfl
theorem aE5:aU 176=some (.code aKq):=rfl
theorem aE6:aU 177=some (.code aKr):=rfl
theorem aE7:aU 178=some (.code aKs):=rfl
theorem aE8:aU 179=some (.code aKt):=rfl
theorem aE9:aU 180=some (.code aKu):=rfl
theorem aFa:aU 181=some (.code aKv):=rfl
theorem aFb:aU 183=some (.code aKw):=rfl
theorem aFc:aU 184=some (.code aDa):=rfl
theorem aFd:aU 185=some (.code aDc):=rfl
theorem aFe:aU 186=some (.code aKx):=rfl
theorem aFf:aU 187=some (.code aKy):=rfl
theorem aFg:aU 188=some (.code aKz):=rfl
theorem aFh:aU 189=some (.code aKA):=rfl
theorem aFi:aU 190=some (.code aKB):=rfl
theorem aFj:aU 191=some (.code aKC):=rfl
theorem aFk:aU 192=some (.code aKD):=rfl
theorem aFl:aU 193=some (.code aKE):=rfl
theorem aFm:aU 194=some (.code aKF):=rfl
theorem aFn:aU 195=some (.code aKG):=rfl
theorem aFo:aU 196=some (.code aKH):=rfl
theorem aFp:aU 197=some (.code aKI):=rfl
theorem ON:aU 198=some (.code aKJ):=rfl
theorem aFq:aU 199=some (.code aKK):=rfl
theorem V8:aU 200=some (.code aKL):=rfl
theorem OO:aU 201=some (.code aKM):=rfl
theorem aFr:aU 202=some (.code aKN):=rfl
theorem aFs:aU 203=some (.code aKO):=rfl
theorem aFt:aU 204=some (.code aKP):=rfl
theorem aFu:aU 205=some (.code aKQ):=rfl
theorem aFv:aU 206=some (.code aKR):=rfl
theorem OP:aU 207=some (.code YI):=rfl
theorem V9:aU 208=some (.code aKS):=rfl
theorem aFw:aU 210=some (.code aKT):=rfl
theorem aFx:aU 211=some (.code aDC):=rfl
theorem aFy:aU 212=some (.code aKU):=rfl
theorem aFz:aU 213=some (.code aKV):=rfl
theorem aFA:aU 214=some (.code aKW):=rfl
theorem aFB:aU 215=some (.prim false D6):=rfl
theorem aFC:aU 216=some (.code aKX):=rfl
theorem aFD:aU 217=some (.code aKY):=rfl
theorem aFE:aU 218=some (.code aKZ):=rfl
theorem aFF:aU 219=some (.code aK0):=rfl
theorem WA:aU 220=some (.code aAp):=rfl
theorem aFG:aU 221=some (.code aK1):=rfl
theorem WB:aU 222=some (.code aK2):=rfl
theorem aFH:aU 223=some (.code aK3):=rfl
theorem aFI:aU 224=some (.code aK4):=rfl
theorem aFJ:aU 225=some (.code aK5):=rfl
theorem aFK:aU 226=some (.code aK6):=rfl
theorem aFL:aU 227=some (.code aK7):=rfl
theorem aFM:aU 228=some (.prim false (fL 1)):=rfl
end Go.Proofs.YticklbjcnimggaaGreat
