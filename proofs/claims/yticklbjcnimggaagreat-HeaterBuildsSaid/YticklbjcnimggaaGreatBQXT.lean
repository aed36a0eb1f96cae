/- The table of the seat's functions. Printed by a program. -/
import Derived.Test.YticklbjcnimggaaGreatBQX1
import Derived.Test.YticklbjcnimggaaGreatChecked
set_option maxRecDepth 100000
namespace Go.Proofs.YticklbjcnimggaaGreat
open Go.Vm
theorem mT:Go.Proofs.Tryz.prog.follows .mixedOrders=true:=Go.Proofs.Tryz.checked.mixed
theorem aMf:BZ Go.Proofs.Tryz.prog 64 (.prim false (fO 3)):=⟨rfl,oZ mT (zero:=[.int .i64 0,.int .i64 0,.int .i64 0]) (by decide+kernel)⟩
theorem aEF:BZ Go.Proofs.Tryz.prog 127 (.prim false (fO 3)):=⟨rfl,oZ mT (zero:=[.int .i64 0,.int .i64 0,.int .i64 0]) (by decide+kernel)⟩
theorem aEG:BZ Go.Proofs.Tryz.prog 128 (.prim false (fO 3)):=⟨rfl,oZ mT (zero:=[.int .i64 0,.int .i64 0,.int .i64 0]) (by decide+kernel)⟩
theorem aEH:BZ Go.Proofs.Tryz.prog 129 (.prim false (fO 5)):=⟨rfl,oZ mT (zero:=[.int .i64 0,.int .i64 0,.int .i64 0,.int .i64 0,.int .i64 0]) (by decide+kernel)⟩
theorem aEI:BZ Go.Proofs.Tryz.prog 130 (.prim false (fO 1)):=⟨rfl,oZ mT (zero:=[.int .i64 0]) (by decide+kernel)⟩
theorem aEJ:BZ Go.Proofs.Tryz.prog 131 (.prim false (fO 1)):=⟨rfl,oZ mT (zero:=[.bool false]) (by decide+kernel)⟩
theorem aEK:BZ Go.Proofs.Tryz.prog 215 (.prim false EC):=⟨rfl,T1 Go.Proofs.Tryz.func215 (by kernel_rfl) (by kernel_rfl) (by kernel_rfl) (by kernel_rfl)⟩
theorem aEL:BZ Go.Proofs.Tryz.prog 228 (.prim false (fO 1)):=⟨rfl,oZ mT (zero:=[.int .i64 0]) (by decide+kernel)⟩
noncomputable def aO7:TT:= .node 128 (.node 73 (.node 45 (.node 23 (.node 17 (.node 14 (.node 6 (.leaf 5 (.code x5)) (.node 10 (.leaf 6 (.code x6)) (.leaf 10 (.code x10)))) (.node 15 (.leaf 14 (.code x14)) (.node 16 (.leaf 15 (.code x15)) (.leaf 16 (.code x16))))) (.node 20 (.node 18 (.leaf 17 (.code x17)) (.node 19 (.leaf 18 (.code x18)) (.leaf 19 (.code x19)))) (.node 21 (.leaf 20 (.code x20)) (.node 22 (.leaf 21 (.code x21)) (.leaf 22 (.code x22)))))) (.node 34 (.node 26 (.node 24 (.leaf 23 (.code x23)) (.node 25 (.leaf 24 (.code x24)) (.leaf 25 (.code x25)))) (.node 32 (.leaf 26 (.code x26)) (.node 33 (.leaf 32 (.code x32)) (.leaf 33 (.code x33))))) (.node 38 (.node 35 (.leaf 34 (.code x34)) (.node 36 (.leaf 35 (.code x35)) (.leaf 36 (.code x36)))) (.node 43 (.node 40 (.leaf 38 (.code x38)) (.leaf 40 (.code x40))) (.node 44 (.leaf 43 (.code x43)) (.leaf 44 (.code x44))))))) (.node 57 (.node 51 (.node 48 (.node 46 (.leaf 45 (.code x45)) (.node 47 (.leaf 46 (.code x46)) (.leaf 47 (.code x47)))) (.node 49 (.leaf 48 (.code x48)) (.node 50 (.leaf 49 (.code x49)) (.leaf 50 (.code x50))))) (.node 54 (.node 52 (.leaf 51 (.code x51)) (.node 53 (.leaf 52 (.code x52)) (.leaf 53 (.code x53)))) (.node 55 (.leaf 54 (.code x54)) (.node 56 (.leaf 55 (.code x55)) (.leaf 56 (.code x56)))))) (.node 65 (.node 60 (.node 58 (.leaf 57 (.code x57)) (.node 59 (.leaf 58 (.code x58)) (.leaf 59 (.code x59)))) (.node 62 (.leaf 60 (.code x60)) (.node 64 (.leaf 62 (.code x62)) (.leaf 64 (.prim false (fO 3)))))) (.node 69 (.node 67 (.leaf 65 (.code x65)) (.node 68 (.leaf 67 (.code x67)) (.leaf 68 (.code x68)))) (.node 71 (.node 70 (.leaf 69 (.code x69)) (.leaf 70 (.code x70))) (.node 72 (.leaf 71 (.code x71)) (.leaf 72 (.code x72)))))))) (.node 102 (.node 89 (.node 80 (.node 76 (.node 74 (.leaf 73 (.code x73)) (.node 75 (.leaf 74 (.code x74)) (.leaf 75 (.code x75)))) (.node 78 (.leaf 76 (.code x76)) (.node 79 (.leaf 78 (.code x78)) (.leaf 79 (.code x79))))) (.node 86 (.node 84 (.leaf 80 (.code x80)) (.node 85 (.leaf 84 (.code x84)) (.leaf 85 (.code x85)))) (.node 87 (.leaf 86 (.code x86)) (.node 88 (.leaf 87 (.code x87)) (.leaf 88 (.code x88)))))) (.node 95 (.node 92 (.node 90 (.leaf 89 (.code x89)) (.node 91 (.leaf 90 (.code x90)) (.leaf 91 (.code x91)))) (.node 93 (.leaf 92 (.code x92)) (.node 94 (.leaf 93 (.code x93)) (.leaf 94 (.code x94))))) (.node 98 (.node 96 (.leaf 95 (.code x95)) (.node 97 (.leaf 96 (.code x96)) (.leaf 97 (.code x97)))) (.node 100 (.node 99 (.leaf 98 (.code x98)) (.leaf 99 (.code x99))) (.node 101 (.leaf 100 (.code aKo)) (.leaf 101 (.code aKp))))))) (.node 114 (.node 108 (.node 105 (.node 103 (.leaf 102 (.code aKq)) (.node 104 (.leaf 103 (.code aKr)) (.leaf 104 (.code aKs)))) (.node 106 (.leaf 105 (.code aKt)) (.node 107 (.leaf 106 (.code aKu)) (.leaf 107 (.code aKv))))) (.node 111 (.node 109 (.leaf 108 (.code aKw)) (.node 110 (.leaf 109 (.code aKx)) (.leaf 110 (.code aKy)))) (.node 112 (.leaf 111 (.code aKz)) (.node 113 (.leaf 112 (.code aKA)) (.leaf 113 (.code aKB)))))) (.node 120 (.node 117 (.node 115 (.leaf 114 (.code aKC)) (.node 116 (.leaf 115 (.code aKD)) (.leaf 116 (.code aKE)))) (.node 118 (.leaf 117 (.code aKF)) (.node 119 (.leaf 118 (.code aKG)) (.leaf 119 (.code aKH))))) (.node 124 (.node 121 (.leaf 120 (.code aKI)) (.node 123 (.leaf 121 (.code aKJ)) (.leaf 123 (.code aKK)))) (.node 126 (.node 125 (.leaf 124 (.code aKL)) (.leaf 125 (.code aKM))) (.node 127 (.leaf 126 (.code aKN)) (.leaf 127 (.prim false (fO 3)))))))))) (.node 179 (.node 154 (.node 141 (.node 134 (.node 131 (.node 129 (.leaf 128 (.prim false (fO 3))) (.node 130 (.leaf 129 (.prim false (fO 5))) (.leaf 130 (.prim false (fO 1))))) (.node 132 (.leaf 131 (.prim false (fO 1))) (.node 133 (.leaf 132 (.code aKO)) (.leaf 133 (.code aKP))))) (.node 138 (.node 136 (.leaf 134 (.code aKQ)) (.node 137 (.leaf 136 (.code aKR)) (.leaf 137 (.code aKS)))) (.node 139 (.leaf 138 (.code aKT)) (.node 140 (.leaf 139 (.code aKU)) (.leaf 140 (.code aKV)))))) (.node 147 (.node 144 (.node 142 (.leaf 141 (.code aKW)) (.node 143 (.leaf 142 (.code aKX)) (.leaf 143 (.code aKY)))) (.node 145 (.leaf 144 (.code aKZ)) (.node 146 (.leaf 145 (.code aK0)) (.leaf 146 (.code aK1))))) (.node 150 (.node 148 (.leaf 147 (.code aK2)) (.node 149 (.leaf 148 (.code aK3)) (.leaf 149 (.code aK4)))) (.node 152 (.node 151 (.leaf 150 (.code aK5)) (.leaf 151 (.code aK6))) (.node 153 (.leaf 152 (.code aK7)) (.leaf 153 (.code aK8))))))) (.node 166 (.node 160 (.node 157 (.node 155 (.leaf 154 (.code aK9)) (.node 156 (.leaf 155 (.code aLa)) (.leaf 156 (.code aLb)))) (.node 158 (.leaf 157 (.code aLc)) (.node 159 (.leaf 158 (.code aLd)) (.leaf 159 (.code aLe))))) (.node 163 (.node 161 (.leaf 160 (.code aLf)) (.node 162 (.leaf 161 (.code aLg)) (.leaf 162 (.code aLh)))) (.node 164 (.leaf 163 (.code aLi)) (.node 165 (.leaf 164 (.code aLj)) (.leaf 165 (.code aLk)))))) (.node 172 (.node 169 (.node 167 (.leaf 166 (.code aLl)) (.node 168 (.leaf 167 (.code aLm)) (.leaf 168 (.code aLn)))) (.node 170 (.leaf 169 (.code aLo)) (.node 171 (.leaf 170 (.code aLp)) (.leaf 171 (.code aLq))))) (.node 175 (.node 173 (.leaf 172 (.code aLr)) (.node 174 (.leaf 173 (.code aLs)) (.leaf 174 (.code aLt)))) (.node 177 (.node 176 (.leaf 175 (.code aLu)) (.leaf 176 (.code aLv))) (.node 178 (.leaf 177 (.code aLw)) (.leaf 178 (.code aLx)))))))) (.node 204 (.node 191 (.node 185 (.node 182 (.node 180 (.leaf 179 (.code aLy)) (.node 181 (.leaf 180 (.code aLz)) (.leaf 181 (.code aLA)))) (.node 183 (.leaf 182 (.code aLB)) (.node 184 (.leaf 183 (.code aLC)) (.leaf 184 (.code aDV))))) (.node 188 (.node 186 (.leaf 185 (.code aDX)) (.node 187 (.leaf 186 (.code aLD)) (.leaf 187 (.code aLE)))) (.node 189 (.leaf 188 (.code aLF)) (.node 190 (.leaf 189 (.code aLG)) (.leaf 190 (.code aLH)))))) (.node 197 (.node 194 (.node 192 (.leaf 191 (.code aLI)) (.node 193 (.leaf 192 (.code aLJ)) (.leaf 193 (.code aLK)))) (.node 195 (.leaf 194 (.code aLL)) (.node 196 (.leaf 195 (.code aLM)) (.leaf 196 (.code aLN))))) (.node 200 (.node 198 (.leaf 197 (.code aLO)) (.node 199 (.leaf 198 (.code aLP)) (.leaf 199 (.code aLQ)))) (.node 202 (.node 201 (.leaf 200 (.code aLR)) (.leaf 201 (.code aLS))) (.node 203 (.leaf 202 (.code aLT)) (.leaf 203 (.code aLU))))))) (.node 216 (.node 210 (.node 207 (.node 205 (.leaf 204 (.code aLV)) (.node 206 (.leaf 205 (.code aLW)) (.leaf 206 (.code aLX)))) (.node 208 (.leaf 207 (.code ZG)) (.node 209 (.leaf 208 (.code aLY)) (.leaf 209 (.code aLZ))))) (.node 213 (.node 211 (.leaf 210 (.code aL0)) (.node 212 (.leaf 211 (.code aEo)) (.leaf 212 (.code aL1)))) (.node 214 (.leaf 213 (.code aL2)) (.node 215 (.leaf 214 (.code aL3)) (.leaf 215 (.prim false EC)))))) (.node 222 (.node 219 (.node 217 (.leaf 216 (.code aL4)) (.node 218 (.leaf 217 (.code aL5)) (.leaf 218 (.code aL6)))) (.node 220 (.leaf 219 (.code aL7)) (.node 221 (.leaf 220 (.code aA7)) (.leaf 221 (.code aL8))))) (.node 225 (.node 223 (.leaf 222 (.code aL9)) (.node 224 (.leaf 223 (.code aMa)) (.leaf 224 (.code aMb)))) (.node 227 (.node 226 (.leaf 225 (.code aMc)) (.leaf 226 (.code aMd))) (.node 228 (.leaf 227 (.code aMe)) (.leaf 228 (.prim false (fO 1))))))))))
theorem W6:aO7.All (BZ Go.Proofs.Tryz.prog):=⟨⟨⟨⟨⟨⟨⟨aO5,⟨aO6,aJg⟩⟩,⟨aJh,⟨aJi,aJj⟩⟩⟩,⟨⟨aJk,⟨aJl,aJm⟩⟩,⟨aJn,⟨aJo,aJp⟩⟩⟩⟩,⟨⟨⟨aJq,⟨aJr,aJs⟩⟩,⟨aJt,⟨aJu,aJv⟩⟩⟩,⟨⟨aJw,⟨aJx,aJy⟩⟩,⟨⟨aJz,aJA⟩,⟨aJB,aJC⟩⟩⟩⟩⟩,⟨⟨⟨⟨aJD,⟨aJE,aJF⟩⟩,⟨aJG,⟨aJH,aJI⟩⟩⟩,⟨⟨aJJ,⟨aJK,aJL⟩⟩,⟨aJM,⟨aJN,aJO⟩⟩⟩⟩,⟨⟨⟨aJP,⟨aJQ,aJR⟩⟩,⟨aJS,⟨aJT,aMf⟩⟩⟩,⟨⟨aJU,⟨aJV,aJW⟩⟩,⟨⟨aJX,aJY⟩,⟨aJZ,aJ0⟩⟩⟩⟩⟩⟩,⟨⟨⟨⟨⟨aJ1,⟨aJ2,aJ3⟩⟩,⟨aJ4,⟨aJ5,aJ6⟩⟩⟩,⟨⟨aJ7,⟨aJ8,aJ9⟩⟩,⟨aKa,⟨aKb,aKc⟩⟩⟩⟩,⟨⟨⟨aKd,⟨aKe,aKf⟩⟩,⟨aKg,⟨aKh,aKi⟩⟩⟩,⟨⟨aKj,⟨aKk,aKl⟩⟩,⟨⟨aKm,aKn⟩,⟨aCG,aCH⟩⟩⟩⟩⟩,⟨⟨⟨⟨aCI,⟨aCJ,aCK⟩⟩,⟨aCL,⟨aCM,aCN⟩⟩⟩,⟨⟨aCO,⟨aCP,aCQ⟩⟩,⟨aCR,⟨aCS,aCT⟩⟩⟩⟩,⟨⟨⟨aCU,⟨aCV,aCW⟩⟩,⟨aCX,⟨aCY,aCZ⟩⟩⟩,⟨⟨aC0,⟨aC1,aC2⟩⟩,⟨⟨aC3,aC4⟩,⟨aC5,aEF⟩⟩⟩⟩⟩⟩⟩,⟨⟨⟨⟨⟨⟨aEG,⟨aEH,aEI⟩⟩,⟨aEJ,⟨aC6,aC7⟩⟩⟩,⟨⟨aC8,⟨aC9,aDa⟩⟩,⟨aDb,⟨aDc,aDd⟩⟩⟩⟩,⟨⟨⟨aDe,⟨aDf,aDg⟩⟩,⟨aDh,⟨aDi,aDj⟩⟩⟩,⟨⟨aDk,⟨aDl,aDm⟩⟩,⟨⟨aDn,aDo⟩,⟨aDp,aDq⟩⟩⟩⟩⟩,⟨⟨⟨⟨aDr,⟨aDs,aDt⟩⟩,⟨aDu,⟨aDv,aDw⟩⟩⟩,⟨⟨aDx,⟨aDy,aDz⟩⟩,⟨aDA,⟨aDB,aDC⟩⟩⟩⟩,⟨⟨⟨aDD,⟨aDE,aDF⟩⟩,⟨aDG,⟨aDH,aDI⟩⟩⟩,⟨⟨aDJ,⟨aDK,aDL⟩⟩,⟨⟨aDM,aDN⟩,⟨aDO,aDP⟩⟩⟩⟩⟩⟩,⟨⟨⟨⟨⟨aDQ,⟨aDR,aDS⟩⟩,⟨aDT,⟨aDU,aDW⟩⟩⟩,⟨⟨aDY,⟨aDZ,aD0⟩⟩,⟨aD1,⟨aD2,aD3⟩⟩⟩⟩,⟨⟨⟨aD4,⟨aD5,aD6⟩⟩,⟨aD7,⟨aD8,aD9⟩⟩⟩,⟨⟨aEa,⟨aEb,aEc⟩⟩,⟨⟨aEd,aEe⟩,⟨aEf,aEg⟩⟩⟩⟩⟩,⟨⟨⟨⟨aEh,⟨aEi,aEj⟩⟩,⟨aEk,⟨aEl,aEm⟩⟩⟩,⟨⟨aEn,⟨aEp,aEq⟩⟩,⟨aEr,⟨aEs,aEK⟩⟩⟩⟩,⟨⟨⟨aEt,⟨aEu,aEv⟩⟩,⟨aEw,⟨aEx,aEy⟩⟩⟩,⟨⟨aEz,⟨aEA,aEB⟩⟩,⟨⟨aEC,aED⟩,⟨aEE,aEL⟩⟩⟩⟩⟩⟩⟩⟩
noncomputable def aV:oY:=aO7.get
theorem aIR:aV 5=some (.code x5):=rfl
theorem aO8:aV 6=some (.code x6):=rfl
theorem aMg:aV 10=some (.code x10):=rfl
theorem aMh:aV 14=some (.code x14):=rfl
theorem aMi:aV 15=some (.code x15):=rfl
theorem aMj:aV 16=some (.code x16):=rfl
theorem aMk:aV 17=some (.code x17):=rfl
theorem aMl:aV 18=some (.code x18):=rfl
theorem aMm:aV 19=some (.code x19):=rfl
theorem aMn:aV 20=some (.code x20):=rfl
theorem aMo:aV 21=some (.code x21):=rfl
theorem aMp:aV 22=some (.code x22):=rfl
theorem aMq:aV 23=some (.code x23):=rfl
theorem aMr:aV 24=some (.code x24):=rfl
theorem aMs:aV 25=some (.code x25):=rfl
theorem aA8:aV 26=some (.code x26):=rfl
theorem aMt:aV 32=some (.code x32):=rfl
theorem aMu:aV 33=some (.code x33):=rfl
theorem aMv:aV 34=some (.code x34):=rfl
theorem aMw:aV 35=some (.code x35):=rfl
theorem aMx:aV 36=some (.code x36):=rfl
theorem aMy:aV 38=some (.code x38):=rfl
theorem aMz:aV 40=some (.code x40):=rfl
theorem aMA:aV 43=some (.code x43):=rfl
theorem aMB:aV 44=some (.code x44):=rfl
theorem aMC:aV 45=some (.code x45):=rfl
theorem aMD:aV 46=some (.code x46):=rfl
theorem aME:aV 47=some (.code x47):=rfl
theorem aMF:aV 48=some (.code x48):=rfl
theorem aMG:aV 49=some (.code x49):=rfl
theorem aMH:aV 50=some (.code x50):=rfl
theorem aMI:aV 51=some (.code x51):=rfl
theorem aMJ:aV 52=some (.code x52):=rfl
theorem aMK:aV 53=some (.code x53):=rfl
theorem aML:aV 54=some (.code x54):=rfl
theorem aMM:aV 55=some (.code x55):=rfl
theorem aA9:aV 56=some (.code x56):=rfl
theorem aBa:aV 57=some (.code x57):=rfl
theorem aBb:aV 58=some (.code x58):=rfl
theorem aMN:aV 59=some (.code x59):=rfl
theorem aMO:aV 60=some (.code x60):=rfl
theorem aMP:aV 62=some (.code x62):=rfl
theorem aMQ:aV 64=some (.prim false (fO 3)):=rfl
theorem aMR:aV 65=some (.code x65):=rfl
theorem aMS:aV 67=some (.code x67):=rfl
theorem aMT:aV 68=some (.code x68):=rfl
theorem aMU:aV 69=some (.code x69):=rfl
theorem aMV:aV 70=some (.code x70):=rfl
theorem aMW:aV 71=some (.code x71):=rfl
theorem aMX:aV 72=some (.code x72):=rfl
theorem aMY:aV 73=some (.code x73):=rfl
theorem aMZ:aV 74=some (.code x74):=rfl
theorem aM0:aV 75=some (.code x75):=rfl
theorem aM1:aV 76=some (.code x76):=rfl
theorem aM2:aV 78=some (.code x78):=rfl
theorem aBc:aV 79=some (.code x79):=rfl
theorem aM3:aV 80=some (.code x80):=rfl
theorem aM4:aV 84=some (.code x84):=rfl
theorem aM5:aV 85=some (.code x85):=rfl
theorem aM6:aV 86=some (.code x86):=rfl
theorem aM7:aV 87=some (.code x87):=rfl
theorem aM8:aV 88=some (.code x88):=rfl
theorem aM9:aV 89=some (.code x89):=rfl
theorem aNa:aV 90=some (.code x90):=rfl
theorem aNb:aV 91=some (.code x91):=rfl
theorem aNc:aV 92=some (.code x92):=rfl
theorem aNd:aV 93=some (.code x93):=rfl
theorem aNe:aV 94=some (.code x94):=rfl
theorem aNf:aV 95=some (.code x95):=rfl
theorem UN:aV 96=some (.code x96):=rfl
theorem aNg:aV 97=some (.code x97):=rfl
theorem aNh:aV 98=some (.code x98):=rfl
theorem aNi:aV 99=some (.code x99):=rfl
theorem aEM:aV 100=some (.code aKo):=rfl
theorem aEN:aV 101=some (.code aKp):=rfl
theorem aEO:aV 102=some (.code aKq):=rfl
theorem aEP:aV 103=some (.code aKr):=rfl
theorem aEQ:aV 104=some (.code aKs):=rfl
theorem aER:aV 105=some (.code aKt):=rfl
theorem W7:aV 106=some (.code aKu):=rfl
theorem aES:aV 107=some (.code aKv):=rfl
theorem aET:aV 108=some (.code aKw):=rfl
theorem aEU:aV 109=some (.code aKx):=rfl
theorem aEV:aV 110=some (.code aKy):=rfl
theorem W8:aV 111=some (.code aKz):=rfl
theorem aEW:aV 112=some (.code aKA):=rfl
theorem aEX:aV 113=some (.code aKB):=rfl
theorem aEY:aV 114=some (.code aKC):=rfl
theorem aEZ:aV 115=some (.code aKD):=rfl
theorem aE0:aV 116=some (.code aKE):=rfl
theorem aE1:aV 117=some (.code aKF):=rfl
theorem aE2:aV 118=some (.code aKG):=rfl
theorem aE3:aV 119=some (.code aKH):=rfl
theorem aE4:aV 120=some (.code aKI):=rfl
theorem aE5:aV 121=some (.code aKJ):=rfl
theorem aE6:aV 123=some (.code aKK):=rfl
theorem aE7:aV 124=some (.code aKL):=rfl
theorem aE8:aV 125=some (.code aKM):=rfl
theorem aE9:aV 126=some (.code aKN):=rfl
theorem aFa:aV 127=some (.prim false (fO 3)):=rfl
theorem aFb:aV 128=some (.prim false (fO 3)):=rfl
theorem aFc:aV 129=some (.prim false (fO 5)):=rfl
theorem aFd:aV 130=some (.prim false (fO 1)):=rfl
theorem aFe:aV 131=some (.prim false (fO 1)):=rfl
theorem aFf:aV 132=some (.code aKO):=rfl
theorem aFg:aV 133=some (.code aKP):=rfl
theorem aFh:aV 134=some (.code aKQ):=rfl
theorem aFi:aV 136=some (.code aKR):=rfl
theorem aFj:aV 137=some (.code aKS):=rfl
theorem W9:aV 138=some (.code aKT):=rfl
theorem aFk:aV 139=some (.code aKU):=rfl
theorem aFl:aV 140=some (.code aKV):=rfl
theorem aFm:aV 141=some (.code aKW):=rfl
theorem aFn:aV 142=some (.code aKX):=rfl
theorem aFo:aV 143=some (.code aKY):=rfl
theorem aFp:aV 144=some (.code aKZ):=rfl
theorem aFq:aV 145=some (.code aK0):=rfl
theorem aFr:aV 146=some (.code aK1):=rfl
theorem O8:aV 147=some (.code aK2):=rfl
theorem aFs:aV 148=some (.code aK3):=rfl
theorem aFt:aV 149=some (.code aK4):=rfl
theorem aFu:aV 150=some (.code aK5):=rfl
theorem aFv:aV 151=some (.code aK6):=rfl
theorem aFw:aV 152=some (.code aK7):=rfl
theorem aFx:aV 153=some (.code aK8):=rfl
theorem aFy:aV 154=some (.code aK9):=rfl
theorem aFz:aV 155=some (.code aLa):=rfl
theorem aFA:aV 156=some (.code aLb):=rfl
theorem aFB:aV 157=some (.code aLc):=rfl
theorem aFC:aV 158=some (.code aLd):=rfl
theorem aFD:aV 159=some (.code aLe):=rfl
theorem aFE:aV 160=some (.code aLf):=rfl
theorem aFF:aV 161=some (.code aLg):=rfl
theorem XA:aV 162=some (.code aLh):=rfl
theorem aFG:aV 163=some (.code aLi):=rfl
theorem aFH:aV 164=some (.code aLj):=rfl
theorem aFI:aV 165=some (.code aLk):=rfl
theorem aFJ:aV 166=some (.code aLl):=rfl
theorem aFK:aV 167=some (.code aLm):=rfl
theorem aFL:aV 168=some (.code aLn):=rfl
theorem aFM:aV 169=some (.code aLo):=rfl
theorem aFN:aV 170=some (.code aLp):=rfl
theorem aFO:aV 171=some (.code aLq):=rfl
theorem aFP:aV 172=some (.code aLr):=rfl
theorem aFQ:aV 173=some (.code aLs):=rfl
theorem aFR:aV 174=some (.code aLt):=rfl
theorem aFS:aV 175=some (.code aLu):=rfl
theorem aFT:aV 176=some (.code aLv):=rfl
theorem aFU:aV 177=some (.code aLw):=rfl
theorem aFV:aV 178=some (.code aLx):=rfl
theorem aFW:aV 179=some (.code aLy):=rfl
theorem aFX:aV 180=some (.code aLz):=rfl
theorem aFY:aV 181=some (.code aLA):=rfl
theorem aFZ:aV 182=some (.code aLB):=rfl
theorem aF0:aV 183=some (.code aLC):=rfl
theorem aF1:aV 184=some (.code aDV):=rfl
theorem aF2:aV 185=some (.code aDX):=rfl
theorem aF3:aV 186=some (.code aLD):=rfl
theorem aF4:aV 187=some (.code aLE):=rfl
theorem aF5:aV 188=some (.code aLF):=rfl
theorem aF6:aV 189=some (.code aLG):=rfl
theorem aF7:aV 190=some (.code aLH):=rfl
theorem aF8:aV 191=some (.code aLI):=rfl
theorem aF9:aV 192=some (.code aLJ):=rfl
theorem aGa:aV 193=some (.code aLK):=rfl
theorem aGb:aV 194=some (.code aLL):=rfl
theorem aGc:aV 195=some (.code aLM):=rfl
theorem aGd:aV 196=some (.code aLN):=rfl
theorem aGe:aV 197=some (.code aLO):=rfl
theorem O9:aV 198=some (.code aLP):=rfl
theorem aGf:aV 199=some (.code aLQ):=rfl
theorem XB:aV 200=some (.code aLR):=rfl
theorem PA:aV 201=some (.code aLS):=rfl
theorem aGg:aV 202=some (.code aLT):=rfl
theorem aGh:aV 203=some (.code aLU):=rfl
theorem aGi:aV 204=some (.code aLV):=rfl
theorem aGj:aV 205=some (.code aLW):=rfl
theorem aGk:aV 206=some (.code aLX):=rfl
theorem PB:aV 207=some (.code ZG):=rfl
theorem XC:aV 208=some (.code aLY):=rfl
theorem aGl:aV 209=some (.code aLZ):=rfl
theorem aGm:aV 210=some (.code aL0):=rfl
theorem aGn:aV 211=some (.code aEo):=rfl
theorem aGo:aV 212=some (.code aL1):=rfl
theorem aGp:aV 213=some (.code aL2):=rfl
theorem aGq:aV 214=some (.code aL3):=rfl
theorem aGr:aV 215=some (.prim false EC):=rfl
theorem aGs:aV 216=some (.code aL4):=rfl
theorem aGt:aV 217=some (.code aL5):=rfl
theorem aGu:aV 218=some (.code aL6):=rfl
theorem aGv:aV 219=some (.code aL7):=rfl
theorem XD:aV 220=some (.code aA7):=rfl
theorem aGw:aV 221=some (.code aL8):=rfl
theorem XE:aV 222=some (.code aL9):=rfl
theorem aGx:aV 223=some (.code aMa):=rfl
theorem aGy:aV 224=some (.code aMb):=rfl
theorem aGz:aV 225=some (.code aMc):=rfl
theorem aGA:aV 226=some (.code aMd):=rfl
theorem aGB:aV 227=some (.code aMe):=rfl
theorem aGC:aV 228=some (.prim false (fO 1)):=rfl
end Go.Proofs.YticklbjcnimggaaGreat
