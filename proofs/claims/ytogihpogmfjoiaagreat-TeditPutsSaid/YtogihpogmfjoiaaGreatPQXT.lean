/- The table of the seat's functions. Printed by a program. -/
import Derived.Test.YtogihpogmfjoiaaGreatPQX1
import Derived.Test.YtogihpogmfjoiaaGreatPQX2
import Derived.Test.YtogihpogmfjoiaaGreatPQIN
import Derived.Test.YtogihpogmfjoiaaGreatPQIO
import Derived.Test.YtogihpogmfjoiaaGreatPQIC
import Derived.Test.YtogihpogmfjoiaaGreatChecked
set_option maxRecDepth 100000
namespace Go.Proofs.YtogihpogmfjoiaaGreat
open Go.Vm
theorem oJ:Go.Proofs.Tryz.prog.follows .mixedOrders=true:=Go.Proofs.Tryz.checked.mixed
theorem aR6:zQ Go.Proofs.Tryz.prog 40 (.prim false (gI 1)):=⟨rfl,qL oJ (zero:=[.int .i64 0]) (by decide+kernel)⟩
theorem aR7:zQ Go.Proofs.Tryz.prog 74 (.shp (TB 3)):=aR2
theorem aR8:zQ Go.Proofs.Tryz.prog 75 (.prim false (gI 3)):=⟨rfl,qL oJ (zero:=[.int .i64 0,.int .i64 0,.int .i64 0]) (by decide+kernel)⟩
theorem aR9:zQ Go.Proofs.Tryz.prog 89 (.shp (TW aAa)):=aR4
theorem aJn:zQ Go.Proofs.Tryz.prog 158 (.shp S9):=aR5
theorem aJo:zQ Go.Proofs.Tryz.prog 218 (.prim false (gI 3)):=⟨rfl,qL oJ (zero:=[.int .i64 0,.int .i64 0,.int .i64 0]) (by decide+kernel)⟩
theorem aJp:zQ Go.Proofs.Tryz.prog 219 (.prim false (gI 3)):=⟨rfl,qL oJ (zero:=[.int .i64 0,.int .i64 0,.int .i64 0]) (by decide+kernel)⟩
theorem aJq:zQ Go.Proofs.Tryz.prog 220 (.prim false (gI 5)):=⟨rfl,qL oJ (zero:=[.int .i64 0,.int .i64 0,.int .i64 0,.int .i64 0,.int .i64 0]) (by decide+kernel)⟩
theorem aJr:zQ Go.Proofs.Tryz.prog 221 (.prim false (gI 1)):=⟨rfl,qL oJ (zero:=[.bool false]) (by decide+kernel)⟩
theorem aJs:zQ Go.Proofs.Tryz.prog 296 (.prim false HA):=⟨rfl,ZW Go.Proofs.Tryz.func296 (by kernel_rfl) (by kernel_rfl) (by kernel_rfl) (by kernel_rfl)⟩
theorem aJt:zQ Go.Proofs.Tryz.prog 308 (.prim false (gI 1)):=⟨rfl,qL oJ (zero:=[.int .i64 0]) (by decide+kernel)⟩
noncomputable def aUR:TT:= .node 157 (.node 91 (.node 53 (.node 36 (.node 20 (.node 16 (.node 10 (.leaf 4 (.code x4)) (.node 11 (.leaf 10 (.code x10)) (.leaf 11 (.code x11)))) (.node 18 (.node 17 (.leaf 16 (.code x16)) (.leaf 17 (.code x17))) (.node 19 (.leaf 18 (.code x18)) (.leaf 19 (.code x19))))) (.node 29 (.node 23 (.leaf 20 (.code x20)) (.node 24 (.leaf 23 (.code x23)) (.leaf 24 (.code x24)))) (.node 33 (.node 31 (.leaf 29 (.code x29)) (.leaf 31 (.code x31))) (.node 35 (.leaf 33 (.code x33)) (.leaf 35 (.code x35)))))) (.node 44 (.node 39 (.node 37 (.leaf 36 (.code x36)) (.node 38 (.leaf 37 (.code x37)) (.leaf 38 (.code x38)))) (.node 41 (.node 40 (.leaf 39 (.code x39)) (.leaf 40 (.prim false (gI 1)))) (.node 42 (.leaf 41 (.code x41)) (.leaf 42 (.code x42))))) (.node 49 (.node 45 (.leaf 44 (.code x44)) (.node 47 (.leaf 45 (.code x45)) (.leaf 47 (.code x47)))) (.node 51 (.node 50 (.leaf 49 (.code x49)) (.leaf 50 (.code x50))) (.node 52 (.leaf 51 (.code x51)) (.leaf 52 (.code x52))))))) (.node 74 (.node 61 (.node 57 (.node 55 (.leaf 53 (.code x53)) (.node 56 (.leaf 55 (.code x55)) (.leaf 56 (.code x56)))) (.node 59 (.node 58 (.leaf 57 (.code x57)) (.leaf 58 (.code x58))) (.node 60 (.leaf 59 (.code x59)) (.leaf 60 (.code x60))))) (.node 64 (.node 62 (.leaf 61 (.code x61)) (.node 63 (.leaf 62 (.code x62)) (.leaf 63 (.code x63)))) (.node 72 (.node 71 (.leaf 64 (.code x64)) (.leaf 71 (.code x71))) (.node 73 (.leaf 72 (.code x72)) (.leaf 73 (.code x73)))))) (.node 84 (.node 79 (.node 75 (.leaf 74 (.shp (TB 3))) (.node 76 (.leaf 75 (.prim false (gI 3))) (.leaf 76 (.code x76)))) (.node 82 (.node 81 (.leaf 79 (.code x79)) (.leaf 81 (.code x81))) (.node 83 (.leaf 82 (.code x82)) (.leaf 83 (.code x83))))) (.node 87 (.node 85 (.leaf 84 (.code x84)) (.node 86 (.leaf 85 (.code x85)) (.leaf 86 (.code x86)))) (.node 89 (.node 88 (.leaf 87 (.code x87)) (.leaf 88 (.code x88))) (.node 90 (.leaf 89 (.shp (TW aAa))) (.leaf 90 (.code x90)))))))) (.node 121 (.node 106 (.node 98 (.node 94 (.node 92 (.leaf 91 (.code x91)) (.node 93 (.leaf 92 (.code x92)) (.leaf 93 (.code x93)))) (.node 96 (.node 95 (.leaf 94 (.code x94)) (.leaf 95 (.code x95))) (.node 97 (.leaf 96 (.code x96)) (.leaf 97 (.code x97))))) (.node 102 (.node 99 (.leaf 98 (.code x98)) (.node 100 (.leaf 99 (.code x99)) (.leaf 100 (.code aPN)))) (.node 104 (.node 103 (.leaf 102 (.code aPO)) (.leaf 103 (.code aPP))) (.node 105 (.leaf 104 (.code aPQ)) (.leaf 105 (.code aPR)))))) (.node 113 (.node 109 (.node 107 (.leaf 106 (.code aPS)) (.node 108 (.leaf 107 (.code aPT)) (.leaf 108 (.code aPU)))) (.node 111 (.node 110 (.leaf 109 (.code aPV)) (.leaf 110 (.code aPW))) (.node 112 (.leaf 111 (.code aPX)) (.leaf 112 (.code aPY))))) (.node 116 (.node 114 (.leaf 113 (.code aPZ)) (.node 115 (.leaf 114 (.code aP0)) (.leaf 115 (.code aP1)))) (.node 118 (.node 117 (.leaf 116 (.code aP2)) (.leaf 117 (.code aP3))) (.node 120 (.leaf 118 (.code aP4)) (.leaf 120 (.code aP5))))))) (.node 141 (.node 132 (.node 125 (.node 123 (.leaf 121 (.code aP6)) (.node 124 (.leaf 123 (.code aP7)) (.leaf 124 (.code aP8)))) (.node 130 (.node 126 (.leaf 125 (.code aP9)) (.leaf 126 (.code aQa))) (.node 131 (.leaf 130 (.code aQb)) (.leaf 131 (.code aQc))))) (.node 137 (.node 133 (.leaf 132 (.code aQd)) (.node 136 (.leaf 133 (.code aQe)) (.leaf 136 (.code aQf)))) (.node 139 (.node 138 (.leaf 137 (.code aQg)) (.leaf 138 (.code aQh))) (.node 140 (.leaf 139 (.code aQi)) (.leaf 140 (.code aQj)))))) (.node 150 (.node 146 (.node 142 (.leaf 141 (.code aEQ)) (.node 143 (.leaf 142 (.code aDh)) (.leaf 143 (.code aQk)))) (.node 148 (.node 147 (.leaf 146 (.code aHm)) (.leaf 147 (.code aHo))) (.node 149 (.leaf 148 (.code aQl)) (.leaf 149 (.code aQm))))) (.node 153 (.node 151 (.leaf 150 (.code aQn)) (.node 152 (.leaf 151 (.code aQo)) (.leaf 152 (.code aQp)))) (.node 155 (.node 154 (.leaf 153 (.code aQq)) (.leaf 154 (.code aQr))) (.node 156 (.leaf 155 (.code aQs)) (.leaf 156 (.code aQt))))))))) (.node 231 (.node 191 (.node 171 (.node 164 (.node 160 (.node 158 (.leaf 157 (.code aQu)) (.node 159 (.leaf 158 (.shp S9)) (.leaf 159 (.code aQv)))) (.node 162 (.node 161 (.leaf 160 (.code aQw)) (.leaf 161 (.code aQx))) (.node 163 (.leaf 162 (.code aQy)) (.leaf 163 (.code aQz))))) (.node 167 (.node 165 (.leaf 164 (.code aQA)) (.node 166 (.leaf 165 (.code aQB)) (.leaf 166 (.code aQC)))) (.node 169 (.node 168 (.leaf 167 (.code aQD)) (.leaf 168 (.code aQE))) (.node 170 (.leaf 169 (.code aQF)) (.leaf 170 (.code aQG)))))) (.node 183 (.node 175 (.node 172 (.leaf 171 (.code aQH)) (.node 174 (.leaf 172 (.code aQI)) (.leaf 174 (.code aQJ)))) (.node 181 (.node 177 (.leaf 175 (.code aQK)) (.leaf 177 (.code aQL))) (.node 182 (.leaf 181 (.code aQM)) (.leaf 182 (.code aQN))))) (.node 186 (.node 184 (.leaf 183 (.code aQO)) (.node 185 (.leaf 184 (.code aQP)) (.leaf 185 (.code aQQ)))) (.node 189 (.node 188 (.leaf 186 (.code aQR)) (.leaf 188 (.code aQS))) (.node 190 (.leaf 189 (.code aQT)) (.leaf 190 (.code aQU))))))) (.node 216 (.node 209 (.node 194 (.node 192 (.leaf 191 (.code aQV)) (.node 193 (.leaf 192 (.code aQW)) (.leaf 193 (.code aQX)))) (.node 196 (.node 195 (.leaf 194 (.code aQY)) (.leaf 195 (.code aER))) (.node 197 (.leaf 196 (.code aAv)) (.leaf 197 (.code aDi))))) (.node 212 (.node 210 (.leaf 209 (.code aQZ)) (.node 211 (.leaf 210 (.code aQ0)) (.leaf 211 (.code aH9)))) (.node 214 (.node 213 (.leaf 212 (.code aQ1)) (.leaf 213 (.code aQ2))) (.node 215 (.leaf 214 (.code aQ3)) (.leaf 215 (.code aQ4)))))) (.node 224 (.node 219 (.node 217 (.leaf 216 (.code aIf)) (.node 218 (.leaf 217 (.code aQ5)) (.leaf 218 (.prim false (gI 3))))) (.node 221 (.node 220 (.leaf 219 (.prim false (gI 3))) (.leaf 220 (.prim false (gI 5)))) (.node 223 (.leaf 221 (.prim false (gI 1))) (.leaf 223 (.code aQ6))))) (.node 227 (.node 225 (.leaf 224 (.code aQ7)) (.node 226 (.leaf 225 (.code aQ8)) (.leaf 226 (.code aQ9)))) (.node 229 (.node 228 (.leaf 227 (.code aRa)) (.leaf 228 (.code aRb))) (.node 230 (.leaf 229 (.code aRc)) (.leaf 230 (.code aRd)))))))) (.node 275 (.node 248 (.node 241 (.node 236 (.node 232 (.leaf 231 (.code aRe)) (.node 235 (.leaf 232 (.code aRf)) (.leaf 235 (.code aRg)))) (.node 238 (.node 237 (.leaf 236 (.code aRh)) (.leaf 237 (.code aRi))) (.node 240 (.leaf 238 (.code aRj)) (.leaf 240 (.code aRk))))) (.node 244 (.node 242 (.leaf 241 (.code aRl)) (.node 243 (.leaf 242 (.code aRm)) (.leaf 243 (.code aRn)))) (.node 246 (.node 245 (.leaf 244 (.code aIA)) (.leaf 245 (.code aRo))) (.node 247 (.leaf 246 (.code aRp)) (.leaf 247 (.code aRq)))))) (.node 260 (.node 256 (.node 254 (.leaf 248 (.code aRr)) (.node 255 (.leaf 254 (.code aRs)) (.leaf 255 (.code aRt)))) (.node 258 (.node 257 (.leaf 256 (.code aRu)) (.leaf 257 (.code aRv))) (.node 259 (.leaf 258 (.code aRw)) (.leaf 259 (.code aRx))))) (.node 263 (.node 261 (.leaf 260 (.code aRy)) (.node 262 (.leaf 261 (.code aRz)) (.leaf 262 (.code aRA)))) (.node 265 (.node 264 (.leaf 263 (.code aRB)) (.leaf 264 (.code aRC))) (.node 274 (.leaf 265 (.code aRD)) (.leaf 274 (.code aRE))))))) (.node 290 (.node 282 (.node 278 (.node 276 (.leaf 275 (.code aRF)) (.node 277 (.leaf 276 (.code aRG)) (.leaf 277 (.code aRH)))) (.node 280 (.node 279 (.leaf 278 (.code aRI)) (.leaf 279 (.code aRJ))) (.node 281 (.leaf 280 (.code aRK)) (.leaf 281 (.code aRL))))) (.node 286 (.node 283 (.leaf 282 (.code aRM)) (.node 285 (.leaf 283 (.code aRN)) (.leaf 285 (.code aDj)))) (.node 288 (.node 287 (.leaf 286 (.code aRO)) (.leaf 287 (.code aRP))) (.node 289 (.leaf 288 (.code aI5)) (.leaf 289 (.code aRQ)))))) (.node 300 (.node 296 (.node 291 (.leaf 290 (.code aI8)) (.node 292 (.leaf 291 (.code aRR)) (.leaf 292 (.code aRS)))) (.node 298 (.node 297 (.leaf 296 (.prim false HA)) (.leaf 297 (.code aRT))) (.node 299 (.leaf 298 (.code aRU)) (.leaf 299 (.code aRV))))) (.node 304 (.node 302 (.node 301 (.leaf 300 (.code aRW)) (.leaf 301 (.code aRX))) (.node 303 (.leaf 302 (.code aRY)) (.leaf 303 (.code aRZ)))) (.node 307 (.node 305 (.leaf 304 (.code aR0)) (.leaf 305 (.code aES))) (.node 308 (.leaf 307 (.code aR1)) (.leaf 308 (.prim false (gI 1))))))))))
theorem aBE:aUR.All (zQ Go.Proofs.Tryz.prog):=⟨⟨⟨⟨⟨⟨⟨aUQ,⟨aOP,aOQ⟩⟩,⟨⟨aOR,aOS⟩,⟨aOT,aOU⟩⟩⟩,⟨⟨aOV,⟨aOW,aOX⟩⟩,⟨⟨aOY,aOZ⟩,⟨aO0,aO1⟩⟩⟩⟩,⟨⟨⟨aO2,⟨aO3,aO4⟩⟩,⟨⟨aO5,aR6⟩,⟨aO6,aO7⟩⟩⟩,⟨⟨aO8,⟨aO9,aPa⟩⟩,⟨⟨aPb,aPc⟩,⟨aPd,aPe⟩⟩⟩⟩⟩,⟨⟨⟨⟨aPf,⟨aPg,aPh⟩⟩,⟨⟨aPi,aPj⟩,⟨aPk,aPl⟩⟩⟩,⟨⟨aPm,⟨aPn,aPo⟩⟩,⟨⟨aPp,aPq⟩,⟨aPr,aPs⟩⟩⟩⟩,⟨⟨⟨aR7,⟨aR8,aPt⟩⟩,⟨⟨aPu,aPv⟩,⟨aPw,aPx⟩⟩⟩,⟨⟨aPy,⟨aPz,aPA⟩⟩,⟨⟨aPB,aPC⟩,⟨aR9,aPD⟩⟩⟩⟩⟩⟩,⟨⟨⟨⟨⟨aPE,⟨aPF,aPG⟩⟩,⟨⟨aPH,aPI⟩,⟨aPJ,aPK⟩⟩⟩,⟨⟨aPL,⟨aPM,aGM⟩⟩,⟨⟨aGN,aGO⟩,⟨aGP,aGQ⟩⟩⟩⟩,⟨⟨⟨aGR,⟨aGS,aGT⟩⟩,⟨⟨aGU,aGV⟩,⟨aGW,aGX⟩⟩⟩,⟨⟨aGY,⟨aGZ,aG0⟩⟩,⟨⟨aG1,aG2⟩,⟨aG3,aG4⟩⟩⟩⟩⟩,⟨⟨⟨⟨aG5,⟨aG6,aG7⟩⟩,⟨⟨aG8,aG9⟩,⟨aHa,aHb⟩⟩⟩,⟨⟨aHc,⟨aHd,aHe⟩⟩,⟨⟨aHf,aHg⟩,⟨aHh,aHi⟩⟩⟩⟩,⟨⟨⟨aHj,⟨aHk,aHl⟩⟩,⟨⟨aHn,aHp⟩,⟨aHq,aHr⟩⟩⟩,⟨⟨aHs,⟨aHt,aHu⟩⟩,⟨⟨aHv,aHw⟩,⟨aHx,aHy⟩⟩⟩⟩⟩⟩⟩,⟨⟨⟨⟨⟨⟨aHz,⟨aJn,aHA⟩⟩,⟨⟨aHB,aHC⟩,⟨aHD,aHE⟩⟩⟩,⟨⟨aHF,⟨aHG,aHH⟩⟩,⟨⟨aHI,aHJ⟩,⟨aHK,aHL⟩⟩⟩⟩,⟨⟨⟨aHM,⟨aHN,aHO⟩⟩,⟨⟨aHP,aHQ⟩,⟨aHR,aHS⟩⟩⟩,⟨⟨aHT,⟨aHU,aHV⟩⟩,⟨⟨aHW,aHX⟩,⟨aHY,aHZ⟩⟩⟩⟩⟩,⟨⟨⟨⟨aH0,⟨aH1,aH2⟩⟩,⟨⟨aH3,aH4⟩,⟨aH5,aH6⟩⟩⟩,⟨⟨aH7,⟨aH8,aIa⟩⟩,⟨⟨aIb,aIc⟩,⟨aId,aIe⟩⟩⟩⟩,⟨⟨⟨aIg,⟨aIh,aJo⟩⟩,⟨⟨aJp,aJq⟩,⟨aJr,aIi⟩⟩⟩,⟨⟨aIj,⟨aIk,aIl⟩⟩,⟨⟨aIm,aIn⟩,⟨aIo,aIp⟩⟩⟩⟩⟩⟩,⟨⟨⟨⟨⟨aIq,⟨aIr,aIs⟩⟩,⟨⟨aIt,aIu⟩,⟨aIv,aIw⟩⟩⟩,⟨⟨aIx,⟨aIy,aIz⟩⟩,⟨⟨aIB,aIC⟩,⟨aID,aIE⟩⟩⟩⟩,⟨⟨⟨aIF,⟨aIG,aIH⟩⟩,⟨⟨aII,aIJ⟩,⟨aIK,aIL⟩⟩⟩,⟨⟨aIM,⟨aIN,aIO⟩⟩,⟨⟨aIP,aIQ⟩,⟨aIR,aIS⟩⟩⟩⟩⟩,⟨⟨⟨⟨aIT,⟨aIU,aIV⟩⟩,⟨⟨aIW,aIX⟩,⟨aIY,aIZ⟩⟩⟩,⟨⟨aI0,⟨aI1,aI2⟩⟩,⟨⟨aI3,aI4⟩,⟨aI6,aI7⟩⟩⟩⟩,⟨⟨⟨aI9,⟨aJa,aJb⟩⟩,⟨⟨aJs,aJc⟩,⟨aJd,aJe⟩⟩⟩,⟨⟨⟨aJf,aJg⟩,⟨aJh,aJi⟩⟩,⟨⟨aJj,aJk⟩,⟨aJl,aJt⟩⟩⟩⟩⟩⟩⟩⟩
noncomputable def tab:qK:=aUR.get
theorem aOk:tab 4=some (.code x4):=rfl
theorem aSa:tab 10=some (.code x10):=rfl
theorem aEY:tab 11=some (.code x11):=rfl
theorem aSb:tab 16=some (.code x16):=rfl
theorem aSc:tab 17=some (.code x17):=rfl
theorem aSd:tab 18=some (.code x18):=rfl
theorem aSe:tab 19=some (.code x19):=rfl
theorem aSf:tab 20=some (.code x20):=rfl
theorem aSg:tab 23=some (.code x23):=rfl
theorem aSh:tab 24=some (.code x24):=rfl
theorem aSi:tab 29=some (.code x29):=rfl
theorem aSj:tab 31=some (.code x31):=rfl
theorem aSk:tab 33=some (.code x33):=rfl
theorem aSl:tab 35=some (.code x35):=rfl
theorem aSm:tab 36=some (.code x36):=rfl
theorem aEZ:tab 37=some (.code x37):=rfl
theorem aE0:tab 38=some (.code x38):=rfl
theorem aSn:tab 39=some (.code x39):=rfl
theorem aSo:tab 40=some (.prim false (gI 1)):=rfl
theorem aSp:tab 41=some (.code x41):=rfl
theorem aSq:tab 42=some (.code x42):=rfl
theorem aE1:tab 44=some (.code x44):=rfl
theorem aSr:tab 45=some (.code x45):=rfl
theorem aSs:tab 47=some (.code x47):=rfl
theorem aSt:tab 49=some (.code x49):=rfl
theorem aSu:tab 50=some (.code x50):=rfl
theorem aSv:tab 51=some (.code x51):=rfl
theorem aE2:tab 52=some (.code x52):=rfl
theorem aSw:tab 53=some (.code x53):=rfl
theorem aSx:tab 55=some (.code x55):=rfl
theorem aSy:tab 56=some (.code x56):=rfl
theorem aSz:tab 57=some (.code x57):=rfl
theorem aSA:tab 58=some (.code x58):=rfl
theorem aSB:tab 59=some (.code x59):=rfl
theorem aSC:tab 60=some (.code x60):=rfl
theorem aSD:tab 61=some (.code x61):=rfl
theorem aSE:tab 62=some (.code x62):=rfl
theorem aSF:tab 63=some (.code x63):=rfl
theorem aSG:tab 64=some (.code x64):=rfl
theorem aSH:tab 71=some (.code x71):=rfl
theorem aSI:tab 72=some (.code x72):=rfl
theorem aSJ:tab 73=some (.code x73):=rfl
theorem aSK:tab 74=some (.shp (TB 3)):=rfl
theorem aSL:tab 75=some (.prim false (gI 3)):=rfl
theorem aSM:tab 76=some (.code x76):=rfl
theorem aSN:tab 79=some (.code x79):=rfl
theorem aSO:tab 81=some (.code x81):=rfl
theorem aSP:tab 82=some (.code x82):=rfl
theorem aE3:tab 83=some (.code x83):=rfl
theorem aE4:tab 84=some (.code x84):=rfl
theorem aE5:tab 85=some (.code x85):=rfl
theorem aSQ:tab 86=some (.code x86):=rfl
theorem aSR:tab 87=some (.code x87):=rfl
theorem aSS:tab 88=some (.code x88):=rfl
theorem aST:tab 89=some (.shp (TW aAa)):=rfl
theorem aSU:tab 90=some (.code x90):=rfl
theorem aSV:tab 91=some (.code x91):=rfl
theorem aSW:tab 92=some (.code x92):=rfl
theorem aSX:tab 93=some (.code x93):=rfl
theorem aSY:tab 94=some (.code x94):=rfl
theorem O4:tab 95=some (.code x95):=rfl
theorem aSZ:tab 96=some (.code x96):=rfl
theorem aS0:tab 97=some (.code x97):=rfl
theorem aS1:tab 98=some (.code x98):=rfl
theorem aS2:tab 99=some (.code x99):=rfl
theorem aJu:tab 100=some (.code aPN):=rfl
theorem aJv:tab 102=some (.code aPO):=rfl
theorem aJw:tab 103=some (.code aPP):=rfl
theorem aJx:tab 104=some (.code aPQ):=rfl
theorem aJy:tab 105=some (.code aPR):=rfl
theorem aJz:tab 106=some (.code aPS):=rfl
theorem aJA:tab 107=some (.code aPT):=rfl
theorem aJB:tab 108=some (.code aPU):=rfl
theorem aJC:tab 109=some (.code aPV):=rfl
theorem aJD:tab 110=some (.code aPW):=rfl
theorem aJE:tab 111=some (.code aPX):=rfl
theorem aJF:tab 112=some (.code aPY):=rfl
theorem aJG:tab 113=some (.code aPZ):=rfl
theorem aJH:tab 114=some (.code aP0):=rfl
theorem aJI:tab 115=some (.code aP1):=rfl
theorem aJJ:tab 116=some (.code aP2):=rfl
theorem aJK:tab 117=some (.code aP3):=rfl
theorem aJL:tab 118=some (.code aP4):=rfl
theorem aJM:tab 120=some (.code aP5):=rfl
theorem aJN:tab 121=some (.code aP6):=rfl
theorem aJO:tab 123=some (.code aP7):=rfl
theorem T9:tab 124=some (.code aP8):=rfl
theorem aJP:tab 125=some (.code aP9):=rfl
theorem aJQ:tab 126=some (.code aQa):=rfl
theorem aJR:tab 130=some (.code aQb):=rfl
theorem aJS:tab 131=some (.code aQc):=rfl
theorem aJT:tab 132=some (.code aQd):=rfl
theorem aJU:tab 133=some (.code aQe):=rfl
theorem aJV:tab 136=some (.code aQf):=rfl
theorem aBF:tab 137=some (.code aQg):=rfl
theorem aJW:tab 138=some (.code aQh):=rfl
theorem aJX:tab 139=some (.code aQi):=rfl
theorem aJY:tab 140=some (.code aQj):=rfl
theorem aBG:tab 141=some (.code aEQ):=rfl
theorem UA:tab 142=some (.code aDh):=rfl
theorem aJZ:tab 143=some (.code aQk):=rfl
theorem aBH:tab 146=some (.code aHm):=rfl
theorem aBI:tab 147=some (.code aHo):=rfl
theorem aJ0:tab 148=some (.code aQl):=rfl
theorem UB:tab 149=some (.code aQm):=rfl
theorem aJ1:tab 150=some (.code aQn):=rfl
theorem aJ2:tab 151=some (.code aQo):=rfl
theorem aJ3:tab 152=some (.code aQp):=rfl
theorem aJ4:tab 153=some (.code aQq):=rfl
theorem aJ5:tab 154=some (.code aQr):=rfl
theorem aJ6:tab 155=some (.code aQs):=rfl
theorem aJ7:tab 156=some (.code aQt):=rfl
theorem aBJ:tab 157=some (.code aQu):=rfl
theorem aJ8:tab 158=some (.shp S9):=rfl
theorem aJ9:tab 159=some (.code aQv):=rfl
theorem aKa:tab 160=some (.code aQw):=rfl
theorem aKb:tab 161=some (.code aQx):=rfl
theorem aKc:tab 162=some (.code aQy):=rfl
theorem aKd:tab 163=some (.code aQz):=rfl
theorem aKe:tab 164=some (.code aQA):=rfl
theorem aKf:tab 165=some (.code aQB):=rfl
theorem aKg:tab 166=some (.code aQC):=rfl
theorem aKh:tab 167=some (.code aQD):=rfl
theorem aKi:tab 168=some (.code aQE):=rfl
theorem aKj:tab 169=some (.code aQF):=rfl
theorem aKk:tab 170=some (.code aQG):=rfl
theorem aKl:tab 171=some (.code aQH):=rfl
theorem aKm:tab 172=some (.code aQI):=rfl
theorem aKn:tab 174=some (.code aQJ):=rfl
theorem aKo:tab 175=some (.code aQK):=rfl
theorem aKp:tab 177=some (.code aQL):=rfl
theorem aKq:tab 181=some (.code aQM):=rfl
theorem aKr:tab 182=some (.code aQN):=rfl
theorem aKs:tab 183=some (.code aQO):=rfl
theorem aKt:tab 184=some (.code aQP):=rfl
theorem aKu:tab 185=some (.code aQQ):=rfl
theorem aKv:tab 186=some (.code aQR):=rfl
theorem aKw:tab 188=some (.code aQS):=rfl
theorem aBK:tab 189=some (.code aQT):=rfl
theorem aKx:tab 190=some (.code aQU):=rfl
theorem aKy:tab 191=some (.code aQV):=rfl
theorem aKz:tab 192=some (.code aQW):=rfl
theorem aKA:tab 193=some (.code aQX):=rfl
theorem aKB:tab 194=some (.code aQY):=rfl
theorem aBL:tab 195=some (.code aER):=rfl
theorem M0:tab 196=some (.code aAv):=rfl
theorem UC:tab 197=some (.code aDi):=rfl
theorem aKC:tab 209=some (.code aQZ):=rfl
theorem UD:tab 210=some (.code aQ0):=rfl
theorem aKD:tab 211=some (.code aH9):=rfl
theorem aKE:tab 212=some (.code aQ1):=rfl
theorem aKF:tab 213=some (.code aQ2):=rfl
theorem aKG:tab 214=some (.code aQ3):=rfl
theorem aKH:tab 215=some (.code aQ4):=rfl
theorem aBM:tab 216=some (.code aIf):=rfl
theorem aKI:tab 217=some (.code aQ5):=rfl
theorem aKJ:tab 218=some (.prim false (gI 3)):=rfl
theorem aKK:tab 219=some (.prim false (gI 3)):=rfl
theorem aKL:tab 220=some (.prim false (gI 5)):=rfl
theorem aKM:tab 221=some (.prim false (gI 1)):=rfl
theorem aKN:tab 223=some (.code aQ6):=rfl
theorem aKO:tab 224=some (.code aQ7):=rfl
theorem aKP:tab 225=some (.code aQ8):=rfl
theorem aKQ:tab 226=some (.code aQ9):=rfl
theorem aKR:tab 227=some (.code aRa):=rfl
theorem aKS:tab 228=some (.code aRb):=rfl
theorem aKT:tab 229=some (.code aRc):=rfl
theorem aKU:tab 230=some (.code aRd):=rfl
theorem aKV:tab 231=some (.code aRe):=rfl
theorem aKW:tab 232=some (.code aRf):=rfl
theorem aKX:tab 235=some (.code aRg):=rfl
theorem aKY:tab 236=some (.code aRh):=rfl
theorem aKZ:tab 237=some (.code aRi):=rfl
theorem aK0:tab 238=some (.code aRj):=rfl
theorem aK1:tab 240=some (.code aRk):=rfl
theorem aK2:tab 241=some (.code aRl):=rfl
theorem aK3:tab 242=some (.code aRm):=rfl
theorem aK4:tab 243=some (.code aRn):=rfl
theorem aK5:tab 244=some (.code aIA):=rfl
theorem aK6:tab 245=some (.code aRo):=rfl
theorem aK7:tab 246=some (.code aRp):=rfl
theorem aK8:tab 247=some (.code aRq):=rfl
theorem aK9:tab 248=some (.code aRr):=rfl
theorem aLa:tab 254=some (.code aRs):=rfl
theorem aLb:tab 255=some (.code aRt):=rfl
theorem aLc:tab 256=some (.code aRu):=rfl
theorem aLd:tab 257=some (.code aRv):=rfl
theorem aLe:tab 258=some (.code aRw):=rfl
theorem UE:tab 259=some (.code aRx):=rfl
theorem aLf:tab 260=some (.code aRy):=rfl
theorem aBN:tab 261=some (.code aRz):=rfl
theorem UF:tab 262=some (.code aRA):=rfl
theorem aLg:tab 263=some (.code aRB):=rfl
theorem aLh:tab 264=some (.code aRC):=rfl
theorem aLi:tab 265=some (.code aRD):=rfl
theorem aLj:tab 274=some (.code aRE):=rfl
theorem aLk:tab 275=some (.code aRF):=rfl
theorem aLl:tab 276=some (.code aRG):=rfl
theorem aLm:tab 277=some (.code aRH):=rfl
theorem aLn:tab 278=some (.code aRI):=rfl
theorem aLo:tab 279=some (.code aRJ):=rfl
theorem aLp:tab 280=some (.code aRK):=rfl
theorem aLq:tab 281=some (.code aRL):=rfl
theorem aLr:tab 282=some (.code aRM):=rfl
theorem aLs:tab 283=some (.code aRN):=rfl
theorem UG:tab 285=some (.code aDj):=rfl
theorem aBO:tab 286=some (.code aRO):=rfl
theorem aLt:tab 287=some (.code aRP):=rfl
theorem aBP:tab 288=some (.code aI5):=rfl
theorem aLu:tab 289=some (.code aRQ):=rfl
theorem aBQ:tab 290=some (.code aI8):=rfl
theorem aLv:tab 291=some (.code aRR):=rfl
theorem aLw:tab 292=some (.code aRS):=rfl
theorem aLx:tab 296=some (.prim false HA):=rfl
theorem aLy:tab 297=some (.code aRT):=rfl
theorem aLz:tab 298=some (.code aRU):=rfl
theorem aLA:tab 299=some (.code aRV):=rfl
theorem aLB:tab 300=some (.code aRW):=rfl
theorem aLC:tab 301=some (.code aRX):=rfl
theorem aBR:tab 302=some (.code aRY):=rfl
theorem aLD:tab 303=some (.code aRZ):=rfl
theorem aLE:tab 304=some (.code aR0):=rfl
theorem aBS:tab 305=some (.code aES):=rfl
theorem aLF:tab 307=some (.code aR1):=rfl
theorem aLG:tab 308=some (.prim false (gI 1)):=rfl
end Go.Proofs.YtogihpogmfjoiaaGreat
