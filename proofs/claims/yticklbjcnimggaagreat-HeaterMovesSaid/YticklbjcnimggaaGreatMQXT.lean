/- The table of the seat's functions. Printed by a program. -/
import Derived.Test.YticklbjcnimggaaGreatMQX1
import Derived.Test.YticklbjcnimggaaGreatChecked
set_option maxRecDepth 100000
namespace Go.Proofs.YticklbjcnimggaaGreat
open Go.Vm
theorem mV:Go.Proofs.Tryz.prog.follows .mixedOrders=true:=Go.Proofs.Tryz.checked.mixed
theorem aLZ:B0 Go.Proofs.Tryz.prog 64 (.prim false (fT 3)):=⟨rfl,oW mV (zero:=[.int .i64 0,.int .i64 0,.int .i64 0]) (by decide+kernel)⟩
theorem aEy:B0 Go.Proofs.Tryz.prog 127 (.prim false (fT 3)):=⟨rfl,oW mV (zero:=[.int .i64 0,.int .i64 0,.int .i64 0]) (by decide+kernel)⟩
theorem aEz:B0 Go.Proofs.Tryz.prog 128 (.prim false (fT 3)):=⟨rfl,oW mV (zero:=[.int .i64 0,.int .i64 0,.int .i64 0]) (by decide+kernel)⟩
theorem aEA:B0 Go.Proofs.Tryz.prog 129 (.prim false (fT 5)):=⟨rfl,oW mV (zero:=[.int .i64 0,.int .i64 0,.int .i64 0,.int .i64 0,.int .i64 0]) (by decide+kernel)⟩
theorem aEB:B0 Go.Proofs.Tryz.prog 130 (.prim false (fT 1)):=⟨rfl,oW mV (zero:=[.int .i64 0]) (by decide+kernel)⟩
theorem aEC:B0 Go.Proofs.Tryz.prog 131 (.prim false (fT 1)):=⟨rfl,oW mV (zero:=[.bool false]) (by decide+kernel)⟩
theorem aED:B0 Go.Proofs.Tryz.prog 215 (.prim false EC):=⟨rfl,TV Go.Proofs.Tryz.func215 (by kernel_rfl) (by kernel_rfl) (by kernel_rfl) (by kernel_rfl)⟩
theorem aEE:B0 Go.Proofs.Tryz.prog 228 (.prim false (fT 1)):=⟨rfl,oW mV (zero:=[.int .i64 0]) (by decide+kernel)⟩
noncomputable def aOT:TT:= .node 125 (.node 72 (.node 41 (.node 25 (.node 13 (.node 10 (.node 6 (.leaf 4 (.code x4)) (.node 7 (.leaf 6 (.code x6)) (.leaf 7 (.code x7)))) (.node 11 (.leaf 10 (.code x10)) (.node 12 (.leaf 11 (.code x11)) (.leaf 12 (.code x12))))) (.node 22 (.node 14 (.leaf 13 (.code x13)) (.node 15 (.leaf 14 (.code x14)) (.leaf 15 (.code x15)))) (.node 23 (.leaf 22 (.code x22)) (.node 24 (.leaf 23 (.code x23)) (.leaf 24 (.code x24)))))) (.node 35 (.node 32 (.node 26 (.leaf 25 (.code x25)) (.node 27 (.leaf 26 (.code x26)) (.leaf 27 (.code x27)))) (.node 33 (.leaf 32 (.code x32)) (.node 34 (.leaf 33 (.code x33)) (.leaf 34 (.code x34))))) (.node 38 (.node 36 (.leaf 35 (.code x35)) (.node 37 (.leaf 36 (.code x36)) (.leaf 37 (.code x37)))) (.node 39 (.leaf 38 (.code x38)) (.node 40 (.leaf 39 (.code x39)) (.leaf 40 (.code x40))))))) (.node 56 (.node 50 (.node 45 (.node 42 (.leaf 41 (.code x41)) (.node 44 (.leaf 42 (.code x42)) (.leaf 44 (.code x44)))) (.node 47 (.leaf 45 (.code x45)) (.node 49 (.leaf 47 (.code x47)) (.leaf 49 (.code x49))))) (.node 53 (.node 51 (.leaf 50 (.code x50)) (.node 52 (.leaf 51 (.code x51)) (.leaf 52 (.code x52)))) (.node 54 (.leaf 53 (.code x53)) (.node 55 (.leaf 54 (.code x54)) (.leaf 55 (.code x55)))))) (.node 64 (.node 59 (.node 57 (.leaf 56 (.code x56)) (.node 58 (.leaf 57 (.code x57)) (.leaf 58 (.code x58)))) (.node 60 (.leaf 59 (.code x59)) (.node 62 (.leaf 60 (.code x60)) (.leaf 62 (.code x62))))) (.node 68 (.node 65 (.leaf 64 (.prim false (fT 3))) (.node 67 (.leaf 65 (.code x65)) (.leaf 67 (.code x67)))) (.node 70 (.node 69 (.leaf 68 (.code x68)) (.leaf 69 (.code x69))) (.node 71 (.leaf 70 (.code x70)) (.leaf 71 (.code x71)))))))) (.node 100 (.node 84 (.node 78 (.node 75 (.node 73 (.leaf 72 (.code x72)) (.node 74 (.leaf 73 (.code x73)) (.leaf 74 (.code x74)))) (.node 76 (.leaf 75 (.code x75)) (.node 77 (.leaf 76 (.code x76)) (.leaf 77 (.code x77))))) (.node 81 (.node 79 (.leaf 78 (.code x78)) (.node 80 (.leaf 79 (.code x79)) (.leaf 80 (.code x80)))) (.node 82 (.leaf 81 (.code x81)) (.node 83 (.leaf 82 (.code x82)) (.leaf 83 (.code x83)))))) (.node 93 (.node 88 (.node 86 (.leaf 84 (.code x84)) (.node 87 (.leaf 86 (.code x86)) (.leaf 87 (.code x87)))) (.node 91 (.leaf 88 (.code x88)) (.node 92 (.leaf 91 (.code x91)) (.leaf 92 (.code x92))))) (.node 96 (.node 94 (.leaf 93 (.code x93)) (.node 95 (.leaf 94 (.code x94)) (.leaf 95 (.code x95)))) (.node 98 (.node 97 (.leaf 96 (.code x96)) (.leaf 97 (.code x97))) (.node 99 (.leaf 98 (.code x98)) (.leaf 99 (.code x99))))))) (.node 112 (.node 106 (.node 103 (.node 101 (.leaf 100 (.code aKb)) (.node 102 (.leaf 101 (.code aKc)) (.leaf 102 (.code aKd)))) (.node 104 (.leaf 103 (.code aKe)) (.node 105 (.leaf 104 (.code aKf)) (.leaf 105 (.code aKg))))) (.node 109 (.node 107 (.leaf 106 (.code aKh)) (.node 108 (.leaf 107 (.code aKi)) (.leaf 108 (.code aKj)))) (.node 110 (.leaf 109 (.code aKk)) (.node 111 (.leaf 110 (.code aKl)) (.leaf 111 (.code aKm)))))) (.node 118 (.node 115 (.node 113 (.leaf 112 (.code aKn)) (.node 114 (.leaf 113 (.code aKo)) (.leaf 114 (.code aKp)))) (.node 116 (.leaf 115 (.code aKq)) (.node 117 (.leaf 116 (.code aKr)) (.leaf 117 (.code aKs))))) (.node 121 (.node 119 (.leaf 118 (.code aKt)) (.node 120 (.leaf 119 (.code aKu)) (.leaf 120 (.code aKv)))) (.node 123 (.node 122 (.leaf 121 (.code aKw)) (.leaf 122 (.code aKx))) (.node 124 (.leaf 123 (.code aKy)) (.leaf 124 (.code aKz))))))))) (.node 177 (.node 152 (.node 140 (.node 131 (.node 128 (.node 126 (.leaf 125 (.code aKA)) (.node 127 (.leaf 126 (.code aKB)) (.leaf 127 (.prim false (fT 3))))) (.node 129 (.leaf 128 (.prim false (fT 3))) (.node 130 (.leaf 129 (.prim false (fT 5))) (.leaf 130 (.prim false (fT 1)))))) (.node 134 (.node 132 (.leaf 131 (.prim false (fT 1))) (.node 133 (.leaf 132 (.code aKC)) (.leaf 133 (.code aKD)))) (.node 135 (.leaf 134 (.code aKE)) (.node 136 (.leaf 135 (.code aKF)) (.leaf 136 (.code aKG)))))) (.node 146 (.node 143 (.node 141 (.leaf 140 (.code aKH)) (.node 142 (.leaf 141 (.code aKI)) (.leaf 142 (.code aKJ)))) (.node 144 (.leaf 143 (.code aKK)) (.node 145 (.leaf 144 (.code aKL)) (.leaf 145 (.code aKM))))) (.node 149 (.node 147 (.leaf 146 (.code aKN)) (.node 148 (.leaf 147 (.code aKO)) (.leaf 148 (.code aKP)))) (.node 150 (.leaf 149 (.code aKQ)) (.node 151 (.leaf 150 (.code aKR)) (.leaf 151 (.code aKS))))))) (.node 164 (.node 158 (.node 155 (.node 153 (.leaf 152 (.code aKT)) (.node 154 (.leaf 153 (.code aKU)) (.leaf 154 (.code aKV)))) (.node 156 (.leaf 155 (.code aKW)) (.node 157 (.leaf 156 (.code aKX)) (.leaf 157 (.code aKY))))) (.node 161 (.node 159 (.leaf 158 (.code aKZ)) (.node 160 (.leaf 159 (.code aK0)) (.leaf 160 (.code aK1)))) (.node 162 (.leaf 161 (.code aK2)) (.node 163 (.leaf 162 (.code aK3)) (.leaf 163 (.code aK4)))))) (.node 170 (.node 167 (.node 165 (.leaf 164 (.code aK5)) (.node 166 (.leaf 165 (.code aK6)) (.leaf 166 (.code aK7)))) (.node 168 (.leaf 167 (.code aK8)) (.node 169 (.leaf 168 (.code aK9)) (.leaf 169 (.code aLa))))) (.node 173 (.node 171 (.leaf 170 (.code aLb)) (.node 172 (.leaf 171 (.code aLc)) (.leaf 172 (.code aLd)))) (.node 175 (.node 174 (.leaf 173 (.code aLe)) (.leaf 174 (.code aLf))) (.node 176 (.leaf 175 (.code aLg)) (.leaf 176 (.code aLh)))))))) (.node 203 (.node 190 (.node 184 (.node 180 (.node 178 (.leaf 177 (.code aLi)) (.node 179 (.leaf 178 (.code aLj)) (.leaf 179 (.code aLk)))) (.node 181 (.leaf 180 (.code aLl)) (.node 183 (.leaf 181 (.code aLm)) (.leaf 183 (.code aLn))))) (.node 187 (.node 185 (.leaf 184 (.code aDP)) (.node 186 (.leaf 185 (.code aDR)) (.leaf 186 (.code aLo)))) (.node 188 (.leaf 187 (.code aLp)) (.node 189 (.leaf 188 (.code aLq)) (.leaf 189 (.code aLr)))))) (.node 196 (.node 193 (.node 191 (.leaf 190 (.code aLs)) (.node 192 (.leaf 191 (.code aLt)) (.leaf 192 (.code aLu)))) (.node 194 (.leaf 193 (.code aLv)) (.node 195 (.leaf 194 (.code aLw)) (.leaf 195 (.code aLx))))) (.node 199 (.node 197 (.leaf 196 (.code aLy)) (.node 198 (.leaf 197 (.code aLz)) (.leaf 198 (.code aLA)))) (.node 201 (.node 200 (.leaf 199 (.code aLB)) (.leaf 200 (.code aLC))) (.node 202 (.leaf 201 (.code aLD)) (.leaf 202 (.code aLE))))))) (.node 216 (.node 210 (.node 206 (.node 204 (.leaf 203 (.code aLF)) (.node 205 (.leaf 204 (.code aLG)) (.leaf 205 (.code aLH)))) (.node 207 (.leaf 206 (.code aLI)) (.node 208 (.leaf 207 (.code Y7)) (.leaf 208 (.code aLJ))))) (.node 213 (.node 211 (.leaf 210 (.code aLK)) (.node 212 (.leaf 211 (.code aEh)) (.leaf 212 (.code aLL)))) (.node 214 (.leaf 213 (.code aLM)) (.node 215 (.leaf 214 (.code aLN)) (.leaf 215 (.prim false EC)))))) (.node 222 (.node 219 (.node 217 (.leaf 216 (.code aLO)) (.node 218 (.leaf 217 (.code aLP)) (.leaf 218 (.code aLQ)))) (.node 220 (.leaf 219 (.code aLR)) (.node 221 (.leaf 220 (.code aAX)) (.leaf 221 (.code aLS))))) (.node 225 (.node 223 (.leaf 222 (.code aLT)) (.node 224 (.leaf 223 (.code aLU)) (.leaf 224 (.code aLV)))) (.node 227 (.node 226 (.leaf 225 (.code aLW)) (.leaf 226 (.code aLX))) (.node 228 (.leaf 227 (.code aLY)) (.leaf 228 (.prim false (fT 1))))))))))
theorem WU:aOT.All (B0 Go.Proofs.Tryz.prog):=⟨⟨⟨⟨⟨⟨⟨aOQ,⟨aOR,aOS⟩⟩,⟨aI3,⟨aI4,aI5⟩⟩⟩,⟨⟨aI6,⟨aI7,aI8⟩⟩,⟨aI9,⟨aJa,aJb⟩⟩⟩⟩,⟨⟨⟨aJc,⟨aJd,aJe⟩⟩,⟨aJf,⟨aJg,aJh⟩⟩⟩,⟨⟨aJi,⟨aJj,aJk⟩⟩,⟨aJl,⟨aJm,aJn⟩⟩⟩⟩⟩,⟨⟨⟨⟨aJo,⟨aJp,aJq⟩⟩,⟨aJr,⟨aJs,aJt⟩⟩⟩,⟨⟨aJu,⟨aJv,aJw⟩⟩,⟨aJx,⟨aJy,aJz⟩⟩⟩⟩,⟨⟨⟨aJA,⟨aJB,aJC⟩⟩,⟨aJD,⟨aJE,aJF⟩⟩⟩,⟨⟨aLZ,⟨aJG,aJH⟩⟩,⟨⟨aJI,aJJ⟩,⟨aJK,aJL⟩⟩⟩⟩⟩⟩,⟨⟨⟨⟨⟨aJM,⟨aJN,aJO⟩⟩,⟨aJP,⟨aJQ,aJR⟩⟩⟩,⟨⟨aJS,⟨aJT,aJU⟩⟩,⟨aJV,⟨aJW,aJX⟩⟩⟩⟩,⟨⟨⟨aJY,⟨aJZ,aJ0⟩⟩,⟨aJ1,⟨aJ2,aJ3⟩⟩⟩,⟨⟨aJ4,⟨aJ5,aJ6⟩⟩,⟨⟨aJ7,aJ8⟩,⟨aJ9,aKa⟩⟩⟩⟩⟩,⟨⟨⟨⟨aCC,⟨aCD,aCE⟩⟩,⟨aCF,⟨aCG,aCH⟩⟩⟩,⟨⟨aCI,⟨aCJ,aCK⟩⟩,⟨aCL,⟨aCM,aCN⟩⟩⟩⟩,⟨⟨⟨aCO,⟨aCP,aCQ⟩⟩,⟨aCR,⟨aCS,aCT⟩⟩⟩,⟨⟨aCU,⟨aCV,aCW⟩⟩,⟨⟨aCX,aCY⟩,⟨aCZ,aC0⟩⟩⟩⟩⟩⟩⟩,⟨⟨⟨⟨⟨⟨aC1,⟨aC2,aEy⟩⟩,⟨aEz,⟨aEA,aEB⟩⟩⟩,⟨⟨aEC,⟨aC3,aC4⟩⟩,⟨aC5,⟨aC6,aC7⟩⟩⟩⟩,⟨⟨⟨aC8,⟨aC9,aDa⟩⟩,⟨aDb,⟨aDc,aDd⟩⟩⟩,⟨⟨aDe,⟨aDf,aDg⟩⟩,⟨aDh,⟨aDi,aDj⟩⟩⟩⟩⟩,⟨⟨⟨⟨aDk,⟨aDl,aDm⟩⟩,⟨aDn,⟨aDo,aDp⟩⟩⟩,⟨⟨aDq,⟨aDr,aDs⟩⟩,⟨aDt,⟨aDu,aDv⟩⟩⟩⟩,⟨⟨⟨aDw,⟨aDx,aDy⟩⟩,⟨aDz,⟨aDA,aDB⟩⟩⟩,⟨⟨aDC,⟨aDD,aDE⟩⟩,⟨⟨aDF,aDG⟩,⟨aDH,aDI⟩⟩⟩⟩⟩⟩,⟨⟨⟨⟨⟨aDJ,⟨aDK,aDL⟩⟩,⟨aDM,⟨aDN,aDO⟩⟩⟩,⟨⟨aDQ,⟨aDS,aDT⟩⟩,⟨aDU,⟨aDV,aDW⟩⟩⟩⟩,⟨⟨⟨aDX,⟨aDY,aDZ⟩⟩,⟨aD0,⟨aD1,aD2⟩⟩⟩,⟨⟨aD3,⟨aD4,aD5⟩⟩,⟨⟨aD6,aD7⟩,⟨aD8,aD9⟩⟩⟩⟩⟩,⟨⟨⟨⟨aEa,⟨aEb,aEc⟩⟩,⟨aEd,⟨aEe,aEf⟩⟩⟩,⟨⟨aEg,⟨aEi,aEj⟩⟩,⟨aEk,⟨aEl,aED⟩⟩⟩⟩,⟨⟨⟨aEm,⟨aEn,aEo⟩⟩,⟨aEp,⟨aEq,aEr⟩⟩⟩,⟨⟨aEs,⟨aEt,aEu⟩⟩,⟨⟨aEv,aEw⟩,⟨aEx,aEE⟩⟩⟩⟩⟩⟩⟩⟩
noncomputable def aX:oV:=aOT.get
theorem aIC:aX 4=some (.code x4):=rfl
theorem aOU:aX 6=some (.code x6):=rfl
theorem aID:aX 7=some (.code x7):=rfl
theorem aL0:aX 10=some (.code x10):=rfl
theorem aL1:aX 11=some (.code x11):=rfl
theorem aL2:aX 12=some (.code x12):=rfl
theorem aL3:aX 13=some (.code x13):=rfl
theorem aL4:aX 14=some (.code x14):=rfl
theorem aL5:aX 15=some (.code x15):=rfl
theorem aL6:aX 22=some (.code x22):=rfl
theorem aL7:aX 23=some (.code x23):=rfl
theorem aL8:aX 24=some (.code x24):=rfl
theorem aL9:aX 25=some (.code x25):=rfl
theorem aAY:aX 26=some (.code x26):=rfl
theorem aAZ:aX 27=some (.code x27):=rfl
theorem aMa:aX 32=some (.code x32):=rfl
theorem aMb:aX 33=some (.code x33):=rfl
theorem aMc:aX 34=some (.code x34):=rfl
theorem aMd:aX 35=some (.code x35):=rfl
theorem aMe:aX 36=some (.code x36):=rfl
theorem aMf:aX 37=some (.code x37):=rfl
theorem aMg:aX 38=some (.code x38):=rfl
theorem aMh:aX 39=some (.code x39):=rfl
theorem aMi:aX 40=some (.code x40):=rfl
theorem aMj:aX 41=some (.code x41):=rfl
theorem aMk:aX 42=some (.code x42):=rfl
theorem aMl:aX 44=some (.code x44):=rfl
theorem aMm:aX 45=some (.code x45):=rfl
theorem aMn:aX 47=some (.code x47):=rfl
theorem aMo:aX 49=some (.code x49):=rfl
theorem aMp:aX 50=some (.code x50):=rfl
theorem aMq:aX 51=some (.code x51):=rfl
theorem aMr:aX 52=some (.code x52):=rfl
theorem aMs:aX 53=some (.code x53):=rfl
theorem aMt:aX 54=some (.code x54):=rfl
theorem aMu:aX 55=some (.code x55):=rfl
theorem aA0:aX 56=some (.code x56):=rfl
theorem aA1:aX 57=some (.code x57):=rfl
theorem aA2:aX 58=some (.code x58):=rfl
theorem aMv:aX 59=some (.code x59):=rfl
theorem aMw:aX 60=some (.code x60):=rfl
theorem aMx:aX 62=some (.code x62):=rfl
theorem aMy:aX 64=some (.prim false (fT 3)):=rfl
theorem aMz:aX 65=some (.code x65):=rfl
theorem aMA:aX 67=some (.code x67):=rfl
theorem aMB:aX 68=some (.code x68):=rfl
theorem aMC:aX 69=some (.code x69):=rfl
theorem aMD:aX 70=some (.code x70):=rfl
theorem aME:aX 71=some (.code x71):=rfl
theorem aMF:aX 72=some (.code x72):=rfl
theorem aMG:aX 73=some (.code x73):=rfl
theorem aMH:aX 74=some (.code x74):=rfl
theorem aMI:aX 75=some (.code x75):=rfl
theorem aMJ:aX 76=some (.code x76):=rfl
theorem aMK:aX 77=some (.code x77):=rfl
theorem aML:aX 78=some (.code x78):=rfl
theorem aA3:aX 79=some (.code x79):=rfl
theorem aMM:aX 80=some (.code x80):=rfl
theorem aMN:aX 81=some (.code x81):=rfl
theorem aMO:aX 82=some (.code x82):=rfl
theorem aMP:aX 83=some (.code x83):=rfl
theorem aMQ:aX 84=some (.code x84):=rfl
theorem aMR:aX 86=some (.code x86):=rfl
theorem aMS:aX 87=some (.code x87):=rfl
theorem aMT:aX 88=some (.code x88):=rfl
theorem aMU:aX 91=some (.code x91):=rfl
theorem aMV:aX 92=some (.code x92):=rfl
theorem aMW:aX 93=some (.code x93):=rfl
theorem aMX:aX 94=some (.code x94):=rfl
theorem aMY:aX 95=some (.code x95):=rfl
theorem UH:aX 96=some (.code x96):=rfl
theorem aMZ:aX 97=some (.code x97):=rfl
theorem aM0:aX 98=some (.code x98):=rfl
theorem aM1:aX 99=some (.code x99):=rfl
theorem aEF:aX 100=some (.code aKb):=rfl
theorem aEG:aX 101=some (.code aKc):=rfl
theorem aEH:aX 102=some (.code aKd):=rfl
theorem aEI:aX 103=some (.code aKe):=rfl
theorem aEJ:aX 104=some (.code aKf):=rfl
theorem aEK:aX 105=some (.code aKg):=rfl
theorem WV:aX 106=some (.code aKh):=rfl
theorem aEL:aX 107=some (.code aKi):=rfl
theorem aEM:aX 108=some (.code aKj):=rfl
theorem aEN:aX 109=some (.code aKk):=rfl
theorem aEO:aX 110=some (.code aKl):=rfl
theorem WW:aX 111=some (.code aKm):=rfl
theorem aEP:aX 112=some (.code aKn):=rfl
theorem aEQ:aX 113=some (.code aKo):=rfl
theorem aER:aX 114=some (.code aKp):=rfl
theorem aES:aX 115=some (.code aKq):=rfl
theorem aET:aX 116=some (.code aKr):=rfl
theorem aEU:aX 117=some (.code aKs):=rfl
theorem aEV:aX 118=some (.code aKt):=rfl
theorem aEW:aX 119=some (.code aKu):=rfl
theorem aEX:aX 120=some (.code aKv):=rfl
theorem aEY:aX 121=some (.code aKw):=rfl
theorem aEZ:aX 122=some (.code aKx):=rfl
theorem aE0:aX 123=some (.code aKy):=rfl
theorem aE1:aX 124=some (.code aKz):=rfl
theorem aE2:aX 125=some (.code aKA):=rfl
theorem aE3:aX 126=some (.code aKB):=rfl
theorem aE4:aX 127=some (.prim false (fT 3)):=rfl
theorem aE5:aX 128=some (.prim false (fT 3)):=rfl
theorem aE6:aX 129=some (.prim false (fT 5)):=rfl
theorem aE7:aX 130=some (.prim false (fT 1)):=rfl
theorem aE8:aX 131=some (.prim false (fT 1)):=rfl
theorem aE9:aX 132=some (.code aKC):=rfl
theorem aFa:aX 133=some (.code aKD):=rfl
theorem aFb:aX 134=some (.code aKE):=rfl
theorem aFc:aX 135=some (.code aKF):=rfl
theorem aFd:aX 136=some (.code aKG):=rfl
theorem aFe:aX 140=some (.code aKH):=rfl
theorem aFf:aX 141=some (.code aKI):=rfl
theorem aFg:aX 142=some (.code aKJ):=rfl
theorem aFh:aX 143=some (.code aKK):=rfl
theorem aFi:aX 144=some (.code aKL):=rfl
theorem aFj:aX 145=some (.code aKM):=rfl
theorem aFk:aX 146=some (.code aKN):=rfl
theorem O9:aX 147=some (.code aKO):=rfl
theorem aFl:aX 148=some (.code aKP):=rfl
theorem aFm:aX 149=some (.code aKQ):=rfl
theorem aFn:aX 150=some (.code aKR):=rfl
theorem aFo:aX 151=some (.code aKS):=rfl
theorem aFp:aX 152=some (.code aKT):=rfl
theorem aFq:aX 153=some (.code aKU):=rfl
theorem aFr:aX 154=some (.code aKV):=rfl
theorem aFs:aX 155=some (.code aKW):=rfl
theorem aFt:aX 156=some (.code aKX):=rfl
theorem aFu:aX 157=some (.code aKY):=rfl
theorem aFv:aX 158=some (.code aKZ):=rfl
theorem aFw:aX 159=some (.code aK0):=rfl
theorem aFx:aX 160=some (.code aK1):=rfl
theorem aFy:aX 161=some (.code aK2):=rfl
theorem WX:aX 162=some (.code aK3):=rfl
theorem aFz:aX 163=some (.code aK4):=rfl
theorem aFA:aX 164=some (.code aK5):=rfl
theorem aFB:aX 165=some (.code aK6):=rfl
theorem aFC:aX 166=some (.code aK7):=rfl
theorem aFD:aX 167=some (.code aK8):=rfl
theorem aFE:aX 168=some (.code aK9):=rfl
theorem aFF:aX 169=some (.code aLa):=rfl
theorem aFG:aX 170=some (.code aLb):=rfl
theorem aFH:aX 171=some (.code aLc):=rfl
theorem aFI:aX 172=some (.code aLd):=rfl
theorem aFJ:aX 173=some (.code aLe):=rfl
theorem aFK:aX 174=some (.code aLf):=rfl
theorem aFL:aX 175=some (.code aLg):=rfl
theorem aFM:aX 176=some (.code aLh):=rfl
theorem aFN:aX 177=some (.code aLi):=rfl
theorem aFO:aX 178=some (.code aLj):=rfl
theorem aFP:aX 179=some (.code aLk):=rfl
theorem aFQ:aX 180=some (.code aLl):=rfl
theorem aFR:aX 181=some (.code aLm):=rfl
theorem aFS:aX 183=some (.code aLn):=rfl
theorem aFT:aX 184=some (.code aDP):=rfl
theorem aFU:aX 185=some (.code aDR):=rfl
theorem aFV:aX 186=some (.code aLo):=rfl
theorem aFW:aX 187=some (.code aLp):=rfl
theorem aFX:aX 188=some (.code aLq):=rfl
theorem aFY:aX 189=some (.code aLr):=rfl
theorem aFZ:aX 190=some (.code aLs):=rfl
theorem aF0:aX 191=some (.code aLt):=rfl
theorem aF1:aX 192=some (.code aLu):=rfl
theorem aF2:aX 193=some (.code aLv):=rfl
theorem aF3:aX 194=some (.code aLw):=rfl
theorem aF4:aX 195=some (.code aLx):=rfl
theorem aF5:aX 196=some (.code aLy):=rfl
theorem aF6:aX 197=some (.code aLz):=rfl
theorem PA:aX 198=some (.code aLA):=rfl
theorem aF7:aX 199=some (.code aLB):=rfl
theorem WY:aX 200=some (.code aLC):=rfl
theorem PB:aX 201=some (.code aLD):=rfl
theorem aF8:aX 202=some (.code aLE):=rfl
theorem aF9:aX 203=some (.code aLF):=rfl
theorem aGa:aX 204=some (.code aLG):=rfl
theorem aGb:aX 205=some (.code aLH):=rfl
theorem aGc:aX 206=some (.code aLI):=rfl
theorem PC:aX 207=some (.code Y7):=rfl
theorem WZ:aX 208=some (.code aLJ):=rfl
theorem aGd:aX 210=some (.code aLK):=rfl
theorem aGe:aX 211=some (.code aEh):=rfl
theorem aGf:aX 212=some (.code aLL):=rfl
theorem aGg:aX 213=some (.code aLM):=rfl
theorem aGh:aX 214=some (.code aLN):=rfl
theorem aGi:aX 215=some (.prim false EC):=rfl
theorem aGj:aX 216=some (.code aLO):=rfl
theorem aGk:aX 217=some (.code aLP):=rfl
theorem aGl:aX 218=some (.code aLQ):=rfl
theorem aGm:aX 219=some (.code aLR):=rfl
theorem W0:aX 220=some (.code aAX):=rfl
theorem aGn:aX 221=some (.code aLS):=rfl
theorem W3:aX 222=some (.code aLT):=rfl
theorem aGo:aX 223=some (.code aLU):=rfl
theorem aGp:aX 224=some (.code aLV):=rfl
theorem aGq:aX 225=some (.code aLW):=rfl
theorem aGr:aX 226=some (.code aLX):=rfl
theorem aGs:aX 227=some (.code aLY):=rfl
theorem aGt:aX 228=some (.prim false (fT 1)):=rfl
end Go.Proofs.YticklbjcnimggaaGreat
