/- The table of the seat's functions. Printed by a program. -/
import Derived.Test.YtbncnimfgdelaaaGreatFEQX1
import Derived.Test.YtbncnimfgdelaaaGreatChecked
set_option maxRecDepth 100000
namespace Go.Proofs.YtbncnimfgdelaaaGreat
open Go.Vm
theorem lN:Go.Proofs.Tryz.prog.follows .mixedOrders=true:=Go.Proofs.Tryz.checked.mixed
theorem aJ2:zV Go.Proofs.Tryz.prog 89 (.prim false (eX 3)):=⟨rfl,mY lN (zero:=[.int .i64 0,.int .i64 0,.int .i64 0]) (by decide+kernel)⟩
theorem aDj:zV Go.Proofs.Tryz.prog 193 (.prim false (eX 3)):=⟨rfl,mY lN (zero:=[.int .i64 0,.int .i64 0,.int .i64 0]) (by decide+kernel)⟩
theorem aDk:zV Go.Proofs.Tryz.prog 194 (.prim false (eX 3)):=⟨rfl,mY lN (zero:=[.int .i64 0,.int .i64 0,.int .i64 0]) (by decide+kernel)⟩
theorem aDl:zV Go.Proofs.Tryz.prog 195 (.prim false (eX 5)):=⟨rfl,mY lN (zero:=[.int .i64 0,.int .i64 0,.int .i64 0,.int .i64 0,.int .i64 0]) (by decide+kernel)⟩
theorem aDm:zV Go.Proofs.Tryz.prog 196 (.prim false (eX 1)):=⟨rfl,mY lN (zero:=[.int .i64 0]) (by decide+kernel)⟩
theorem aDn:zV Go.Proofs.Tryz.prog 197 (.prim false (eX 1)):=⟨rfl,mY lN (zero:=[.bool false]) (by decide+kernel)⟩
theorem aDo:zV Go.Proofs.Tryz.prog 277 (.prim false CY):=⟨rfl,SL Go.Proofs.Tryz.func277 (by kernel_rfl) (by kernel_rfl) (by kernel_rfl) (by kernel_rfl)⟩
theorem aDp:zV Go.Proofs.Tryz.prog 293 (.prim false (eX 1)):=⟨rfl,mY lN (zero:=[.int .i64 0]) (by decide+kernel)⟩
noncomputable def aLU:TT:= .node 166 (.node 95 (.node 59 (.node 25 (.node 20 (.node 12 (.node 10 (.leaf 4 (.code x4)) (.leaf 10 (.code x10))) (.node 16 (.leaf 12 (.code x12)) (.node 19 (.leaf 16 (.code x16)) (.leaf 19 (.code x19))))) (.node 22 (.node 21 (.leaf 20 (.code x20)) (.leaf 21 (.code x21))) (.node 23 (.leaf 22 (.code x22)) (.node 24 (.leaf 23 (.code x23)) (.leaf 24 (.code x24)))))) (.node 45 (.node 41 (.node 28 (.leaf 25 (.code x25)) (.leaf 28 (.code x28))) (.node 42 (.leaf 41 (.code x41)) (.node 43 (.leaf 42 (.code x42)) (.leaf 43 (.code x43))))) (.node 54 (.node 53 (.leaf 45 (.code x45)) (.leaf 53 (.code x53))) (.node 57 (.leaf 54 (.code x54)) (.node 58 (.leaf 57 (.code x57)) (.leaf 58 (.code x58))))))) (.node 70 (.node 65 (.node 62 (.node 60 (.leaf 59 (.code x59)) (.leaf 60 (.code x60))) (.node 63 (.leaf 62 (.code x62)) (.node 64 (.leaf 63 (.code x63)) (.leaf 64 (.code x64))))) (.node 67 (.node 66 (.leaf 65 (.code x65)) (.leaf 66 (.code x66))) (.node 68 (.leaf 67 (.code x67)) (.node 69 (.leaf 68 (.code x68)) (.leaf 69 (.code x69)))))) (.node 85 (.node 73 (.node 72 (.leaf 70 (.code x70)) (.leaf 72 (.code x72))) (.node 74 (.leaf 73 (.code x73)) (.node 75 (.leaf 74 (.code x74)) (.leaf 75 (.code x75))))) (.node 87 (.node 86 (.leaf 85 (.code x85)) (.leaf 86 (.code x86))) (.node 89 (.leaf 87 (.code x87)) (.node 90 (.leaf 89 (.prim false (eX 3))) (.leaf 90 (.code x90)))))))) (.node 125 (.node 115 (.node 105 (.node 97 (.node 96 (.leaf 95 (.code x95)) (.leaf 96 (.code x96))) (.node 99 (.leaf 97 (.code x97)) (.node 100 (.leaf 99 (.code x99)) (.leaf 100 (.code aIl))))) (.node 110 (.node 106 (.leaf 105 (.code aIm)) (.leaf 106 (.code aIn))) (.node 111 (.leaf 110 (.code aIo)) (.node 114 (.leaf 111 (.code aIp)) (.leaf 114 (.code aIq)))))) (.node 120 (.node 117 (.node 116 (.leaf 115 (.code aIr)) (.leaf 116 (.code aIs))) (.node 118 (.leaf 117 (.code aIt)) (.node 119 (.leaf 118 (.code aIu)) (.leaf 119 (.code aIv))))) (.node 122 (.node 121 (.leaf 120 (.code aIw)) (.leaf 121 (.code aIx))) (.node 123 (.leaf 122 (.code aIy)) (.node 124 (.leaf 123 (.code aIz)) (.leaf 124 (.code aIA))))))) (.node 141 (.node 132 (.node 129 (.node 128 (.leaf 125 (.code aIB)) (.leaf 128 (.code aIC))) (.node 130 (.leaf 129 (.code aID)) (.node 131 (.leaf 130 (.code aIE)) (.leaf 131 (.code aIF))))) (.node 134 (.node 133 (.leaf 132 (.code aIG)) (.leaf 133 (.code aIH))) (.node 135 (.leaf 134 (.code aII)) (.node 136 (.leaf 135 (.code aIJ)) (.leaf 136 (.code aIK)))))) (.node 154 (.node 143 (.node 142 (.leaf 141 (.code aIL)) (.leaf 142 (.code aIM))) (.node 144 (.leaf 143 (.code aIN)) (.node 151 (.leaf 144 (.code aIO)) (.leaf 151 (.code aIP))))) (.node 158 (.node 155 (.leaf 154 (.code aIQ)) (.leaf 155 (.code aIR))) (.node 164 (.leaf 158 (.code aIS)) (.node 165 (.leaf 164 (.code aIT)) (.leaf 165 (.code aIU))))))))) (.node 223 (.node 192 (.node 181 (.node 176 (.node 168 (.node 167 (.leaf 166 (.code aIV)) (.leaf 167 (.code aIW))) (.node 174 (.leaf 168 (.code aIX)) (.node 175 (.leaf 174 (.code aIY)) (.leaf 175 (.code aIZ))))) (.node 178 (.node 177 (.leaf 176 (.code aI0)) (.leaf 177 (.code aI1))) (.node 179 (.leaf 178 (.code aI2)) (.node 180 (.leaf 179 (.code aI3)) (.leaf 180 (.code aI4)))))) (.node 187 (.node 183 (.node 182 (.leaf 181 (.code aI5)) (.leaf 182 (.code aI6))) (.node 185 (.leaf 183 (.code aI7)) (.node 186 (.leaf 185 (.code aI8)) (.leaf 186 (.code aI9))))) (.node 189 (.node 188 (.leaf 187 (.code aJa)) (.leaf 188 (.code aJb))) (.node 190 (.leaf 189 (.code aJc)) (.node 191 (.leaf 190 (.code aJd)) (.leaf 191 (.code aJe))))))) (.node 207 (.node 197 (.node 194 (.node 193 (.leaf 192 (.code aJf)) (.leaf 193 (.prim false (eX 3)))) (.node 195 (.leaf 194 (.prim false (eX 3))) (.node 196 (.leaf 195 (.prim false (eX 5))) (.leaf 196 (.prim false (eX 1)))))) (.node 203 (.node 199 (.leaf 197 (.prim false (eX 1))) (.leaf 199 (.code aJg))) (.node 204 (.leaf 203 (.code aJh)) (.node 205 (.leaf 204 (.code aJi)) (.leaf 205 (.code aJj)))))) (.node 213 (.node 210 (.node 209 (.leaf 207 (.code aJk)) (.leaf 209 (.code aJl))) (.node 211 (.leaf 210 (.code aJm)) (.node 212 (.leaf 211 (.code aJn)) (.leaf 212 (.code aJo))))) (.node 215 (.node 214 (.leaf 213 (.code aJp)) (.leaf 214 (.code aJq))) (.node 216 (.leaf 215 (.code aJr)) (.node 222 (.leaf 216 (.code aJs)) (.leaf 222 (.code aCC)))))))) (.node 263 (.node 233 (.node 228 (.node 225 (.node 224 (.leaf 223 (.code aCE)) (.leaf 224 (.code aJt))) (.node 226 (.leaf 225 (.code aJu)) (.node 227 (.leaf 226 (.code aJv)) (.leaf 227 (.code aJw))))) (.node 230 (.node 229 (.leaf 228 (.code aJx)) (.leaf 229 (.code aJy))) (.node 231 (.leaf 230 (.code aJz)) (.node 232 (.leaf 231 (.code aJA)) (.leaf 232 (.code aJB)))))) (.node 257 (.node 246 (.node 245 (.leaf 233 (.code aJC)) (.leaf 245 (.code aJD))) (.node 247 (.leaf 246 (.code aJE)) (.node 256 (.leaf 247 (.code aJF)) (.leaf 256 (.code aJG))))) (.node 259 (.node 258 (.leaf 257 (.code aJH)) (.leaf 258 (.code aJI))) (.node 260 (.leaf 259 (.code aJJ)) (.node 261 (.leaf 260 (.code aJK)) (.leaf 261 (.code aJL))))))) (.node 281 (.node 268 (.node 265 (.node 264 (.leaf 263 (.code aCZ)) (.leaf 264 (.code aJM))) (.node 266 (.leaf 265 (.code aJN)) (.node 267 (.leaf 266 (.code aJO)) (.leaf 267 (.code aJP))))) (.node 270 (.node 269 (.leaf 268 (.code aJQ)) (.leaf 269 (.code aJR))) (.node 271 (.leaf 270 (.code XE)) (.node 277 (.leaf 271 (.code aJS)) (.leaf 277 (.prim false CY)))))) (.node 286 (.node 283 (.node 282 (.leaf 281 (.code aJT)) (.leaf 282 (.code aJU))) (.node 284 (.leaf 283 (.code aJV)) (.node 285 (.leaf 284 (.code aJW)) (.leaf 285 (.code aJX))))) (.node 291 (.node 287 (.leaf 286 (.code ZZ)) (.node 288 (.leaf 287 (.code aJY)) (.leaf 288 (.code aJZ)))) (.node 292 (.leaf 291 (.code aJ0)) (.node 293 (.leaf 292 (.code aJ1)) (.leaf 293 (.prim false (eX 1))))))))))
theorem U7:aLU.All (zV Go.Proofs.Tryz.prog):=⟨⟨⟨⟨⟨⟨⟨aLT,aHF⟩,⟨aHG,⟨aHH,aHI⟩⟩⟩,⟨⟨aHJ,aHK⟩,⟨aHL,⟨aHM,aHN⟩⟩⟩⟩,⟨⟨⟨aHO,aHP⟩,⟨aHQ,⟨aHR,aHS⟩⟩⟩,⟨⟨aHT,aHU⟩,⟨aHV,⟨aHW,aHX⟩⟩⟩⟩⟩,⟨⟨⟨⟨aHY,aHZ⟩,⟨aH0,⟨aH1,aH2⟩⟩⟩,⟨⟨aH3,aH4⟩,⟨aH5,⟨aH6,aH7⟩⟩⟩⟩,⟨⟨⟨aH8,aH9⟩,⟨aIa,⟨aIb,aIc⟩⟩⟩,⟨⟨aId,aIe⟩,⟨aIf,⟨aJ2,aIg⟩⟩⟩⟩⟩⟩,⟨⟨⟨⟨⟨aIh,aIi⟩,⟨aIj,⟨aIk,aBu⟩⟩⟩,⟨⟨aBv,aBw⟩,⟨aBx,⟨aBy,aBz⟩⟩⟩⟩,⟨⟨⟨aBA,aBB⟩,⟨aBC,⟨aBD,aBE⟩⟩⟩,⟨⟨aBF,aBG⟩,⟨aBH,⟨aBI,aBJ⟩⟩⟩⟩⟩,⟨⟨⟨⟨aBK,aBL⟩,⟨aBM,⟨aBN,aBO⟩⟩⟩,⟨⟨aBP,aBQ⟩,⟨aBR,⟨aBS,aBT⟩⟩⟩⟩,⟨⟨⟨aBU,aBV⟩,⟨aBW,⟨aBX,aBY⟩⟩⟩,⟨⟨aBZ,aB0⟩,⟨aB1,⟨aB2,aB3⟩⟩⟩⟩⟩⟩⟩,⟨⟨⟨⟨⟨⟨aB4,aB5⟩,⟨aB6,⟨aB7,aB8⟩⟩⟩,⟨⟨aB9,aCa⟩,⟨aCb,⟨aCc,aCd⟩⟩⟩⟩,⟨⟨⟨aCe,aCf⟩,⟨aCg,⟨aCh,aCi⟩⟩⟩,⟨⟨aCj,aCk⟩,⟨aCl,⟨aCm,aCn⟩⟩⟩⟩⟩,⟨⟨⟨⟨aCo,aDj⟩,⟨aDk,⟨aDl,aDm⟩⟩⟩,⟨⟨aDn,aCp⟩,⟨aCq,⟨aCr,aCs⟩⟩⟩⟩,⟨⟨⟨aCt,aCu⟩,⟨aCv,⟨aCw,aCx⟩⟩⟩,⟨⟨aCy,aCz⟩,⟨aCA,⟨aCB,aCD⟩⟩⟩⟩⟩⟩,⟨⟨⟨⟨⟨aCF,aCG⟩,⟨aCH,⟨aCI,aCJ⟩⟩⟩,⟨⟨aCK,aCL⟩,⟨aCM,⟨aCN,aCO⟩⟩⟩⟩,⟨⟨⟨aCP,aCQ⟩,⟨aCR,⟨aCS,aCT⟩⟩⟩,⟨⟨aCU,aCV⟩,⟨aCW,⟨aCX,aCY⟩⟩⟩⟩⟩,⟨⟨⟨⟨aC0,aC1⟩,⟨aC2,⟨aC3,aC4⟩⟩⟩,⟨⟨aC5,aC6⟩,⟨aC7,⟨aC8,aDo⟩⟩⟩⟩,⟨⟨⟨aC9,aDa⟩,⟨aDb,⟨aDc,aDd⟩⟩⟩,⟨⟨aDe,⟨aDf,aDg⟩⟩,⟨aDh,⟨aDi,aDp⟩⟩⟩⟩⟩⟩⟩⟩
noncomputable def tab:mX:=aLU.get
theorem aHg:tab 4=some (.code x4):=rfl
theorem aJ3:tab 10=some (.code x10):=rfl
theorem aJ4:tab 12=some (.code x12):=rfl
theorem aJ5:tab 16=some (.code x16):=rfl
theorem aJ6:tab 19=some (.code x19):=rfl
theorem aJ7:tab 20=some (.code x20):=rfl
theorem aJ8:tab 21=some (.code x21):=rfl
theorem aJ9:tab 22=some (.code x22):=rfl
theorem aKa:tab 23=some (.code x23):=rfl
theorem aKb:tab 24=some (.code x24):=rfl
theorem aKc:tab 25=some (.code x25):=rfl
theorem aKd:tab 28=some (.code x28):=rfl
theorem aKe:tab 41=some (.code x41):=rfl
theorem aKf:tab 42=some (.code x42):=rfl
theorem aKg:tab 43=some (.code x43):=rfl
theorem aKh:tab 45=some (.code x45):=rfl
theorem aKi:tab 53=some (.code x53):=rfl
theorem aKj:tab 54=some (.code x54):=rfl
theorem aKk:tab 57=some (.code x57):=rfl
theorem aKl:tab 58=some (.code x58):=rfl
theorem aKm:tab 59=some (.code x59):=rfl
theorem aKn:tab 60=some (.code x60):=rfl
theorem aKo:tab 62=some (.code x62):=rfl
theorem aKp:tab 63=some (.code x63):=rfl
theorem aKq:tab 64=some (.code x64):=rfl
theorem aKr:tab 65=some (.code x65):=rfl
theorem aKs:tab 66=some (.code x66):=rfl
theorem aKt:tab 67=some (.code x67):=rfl
theorem aKu:tab 68=some (.code x68):=rfl
theorem aKv:tab 69=some (.code x69):=rfl
theorem aKw:tab 70=some (.code x70):=rfl
theorem aKx:tab 72=some (.code x72):=rfl
theorem aKy:tab 73=some (.code x73):=rfl
theorem aKz:tab 74=some (.code x74):=rfl
theorem aKA:tab 75=some (.code x75):=rfl
theorem aKB:tab 85=some (.code x85):=rfl
theorem aKC:tab 86=some (.code x86):=rfl
theorem aKD:tab 87=some (.code x87):=rfl
theorem aKE:tab 89=some (.prim false (eX 3)):=rfl
theorem aKF:tab 90=some (.code x90):=rfl
theorem aKG:tab 95=some (.code x95):=rfl
theorem aKH:tab 96=some (.code x96):=rfl
theorem aKI:tab 97=some (.code x97):=rfl
theorem aKJ:tab 99=some (.code x99):=rfl
theorem aDq:tab 100=some (.code aIl):=rfl
theorem aDr:tab 105=some (.code aIm):=rfl
theorem aDs:tab 106=some (.code aIn):=rfl
theorem U8:tab 110=some (.code aIo):=rfl
theorem aDt:tab 111=some (.code aIp):=rfl
theorem aDu:tab 114=some (.code aIq):=rfl
theorem aDv:tab 115=some (.code aIr):=rfl
theorem aDw:tab 116=some (.code aIs):=rfl
theorem aDx:tab 117=some (.code aIt):=rfl
theorem aDy:tab 118=some (.code aIu):=rfl
theorem aDz:tab 119=some (.code aIv):=rfl
theorem aDA:tab 120=some (.code aIw):=rfl
theorem aDB:tab 121=some (.code aIx):=rfl
theorem aDC:tab 122=some (.code aIy):=rfl
theorem aDD:tab 123=some (.code aIz):=rfl
theorem aDE:tab 124=some (.code aIA):=rfl
theorem aDF:tab 125=some (.code aIB):=rfl
theorem aDG:tab 128=some (.code aIC):=rfl
theorem aDH:tab 129=some (.code aID):=rfl
theorem aDI:tab 130=some (.code aIE):=rfl
theorem aDJ:tab 131=some (.code aIF):=rfl
theorem aDK:tab 132=some (.code aIG):=rfl
theorem aDL:tab 133=some (.code aIH):=rfl
theorem aDM:tab 134=some (.code aII):=rfl
theorem aDN:tab 135=some (.code aIJ):=rfl
theorem U9:tab 136=some (.code aIK):=rfl
theorem aDO:tab 141=some (.code aIL):=rfl
theorem VA:tab 142=some (.code aIM):=rfl
theorem aDP:tab 143=some (.code aIN):=rfl
theorem aDQ:tab 144=some (.code aIO):=rfl
theorem aDR:tab 151=some (.code aIP):=rfl
theorem aDS:tab 154=some (.code aIQ):=rfl
theorem aDT:tab 155=some (.code aIR):=rfl
theorem aDU:tab 158=some (.code aIS):=rfl
theorem aDV:tab 164=some (.code aIT):=rfl
theorem VB:tab 165=some (.code aIU):=rfl
theorem aDW:tab 166=some (.code aIV):=rfl
theorem aDX:tab 167=some (.code aIW):=rfl
theorem VC:tab 168=some (.code aIX):=rfl
theorem aDY:tab 174=some (.code aIY):=rfl
theorem aDZ:tab 175=some (.code aIZ):=rfl
theorem aD0:tab 176=some (.code aI0):=rfl
theorem aD1:tab 177=some (.code aI1):=rfl
theorem aD2:tab 178=some (.code aI2):=rfl
theorem aD3:tab 179=some (.code aI3):=rfl
theorem aD4:tab 180=some (.code aI4):=rfl
theorem aD5:tab 181=some (.code aI5):=rfl
theorem aD6:tab 182=some (.code aI6):=rfl
theorem aD7:tab 183=some (.code aI7):=rfl
theorem aD8:tab 185=some (.code aI8):=rfl
theorem aD9:tab 186=some (.code aI9):=rfl
theorem aEa:tab 187=some (.code aJa):=rfl
theorem aEb:tab 188=some (.code aJb):=rfl
theorem aEc:tab 189=some (.code aJc):=rfl
theorem aEd:tab 190=some (.code aJd):=rfl
theorem aEe:tab 191=some (.code aJe):=rfl
theorem aEf:tab 192=some (.code aJf):=rfl
theorem aEg:tab 193=some (.prim false (eX 3)):=rfl
theorem aEh:tab 194=some (.prim false (eX 3)):=rfl
theorem aEi:tab 195=some (.prim false (eX 5)):=rfl
theorem aEj:tab 196=some (.prim false (eX 1)):=rfl
theorem aEk:tab 197=some (.prim false (eX 1)):=rfl
theorem aEl:tab 199=some (.code aJg):=rfl
theorem aEm:tab 203=some (.code aJh):=rfl
theorem aEn:tab 204=some (.code aJi):=rfl
theorem aEo:tab 205=some (.code aJj):=rfl
theorem aEp:tab 207=some (.code aJk):=rfl
theorem aEq:tab 209=some (.code aJl):=rfl
theorem aEr:tab 210=some (.code aJm):=rfl
theorem aEs:tab 211=some (.code aJn):=rfl
theorem aEt:tab 212=some (.code aJo):=rfl
theorem aEu:tab 213=some (.code aJp):=rfl
theorem VD:tab 214=some (.code aJq):=rfl
theorem aEv:tab 215=some (.code aJr):=rfl
theorem aEw:tab 216=some (.code aJs):=rfl
theorem aEx:tab 222=some (.code aCC):=rfl
theorem aEy:tab 223=some (.code aCE):=rfl
theorem aEz:tab 224=some (.code aJt):=rfl
theorem aEA:tab 225=some (.code aJu):=rfl
theorem aEB:tab 226=some (.code aJv):=rfl
theorem aEC:tab 227=some (.code aJw):=rfl
theorem aED:tab 228=some (.code aJx):=rfl
theorem aEE:tab 229=some (.code aJy):=rfl
theorem aEF:tab 230=some (.code aJz):=rfl
theorem aEG:tab 231=some (.code aJA):=rfl
theorem aEH:tab 232=some (.code aJB):=rfl
theorem aEI:tab 233=some (.code aJC):=rfl
theorem aEJ:tab 245=some (.code aJD):=rfl
theorem aEK:tab 246=some (.code aJE):=rfl
theorem aEL:tab 247=some (.code aJF):=rfl
theorem aEM:tab 256=some (.code aJG):=rfl
theorem aEN:tab 257=some (.code aJH):=rfl
theorem aEO:tab 258=some (.code aJI):=rfl
theorem VE:tab 259=some (.code aJJ):=rfl
theorem aEP:tab 260=some (.code aJK):=rfl
theorem aEQ:tab 261=some (.code aJL):=rfl
theorem aER:tab 263=some (.code aCZ):=rfl
theorem aES:tab 264=some (.code aJM):=rfl
theorem aET:tab 265=some (.code aJN):=rfl
theorem aEU:tab 266=some (.code aJO):=rfl
theorem aEV:tab 267=some (.code aJP):=rfl
theorem aEW:tab 268=some (.code aJQ):=rfl
theorem aEX:tab 269=some (.code aJR):=rfl
theorem N2:tab 270=some (.code XE):=rfl
theorem VF:tab 271=some (.code aJS):=rfl
theorem aEY:tab 277=some (.prim false CY):=rfl
theorem aEZ:tab 281=some (.code aJT):=rfl
theorem aE0:tab 282=some (.code aJU):=rfl
theorem aE1:tab 283=some (.code aJV):=rfl
theorem aE2:tab 284=some (.code aJW):=rfl
theorem aE3:tab 285=some (.code aJX):=rfl
theorem VG:tab 286=some (.code ZZ):=rfl
theorem aE4:tab 287=some (.code aJY):=rfl
theorem VH:tab 288=some (.code aJZ):=rfl
theorem aE5:tab 291=some (.code aJ0):=rfl
theorem aE6:tab 292=some (.code aJ1):=rfl
theorem aE7:tab 293=some (.prim false (eX 1)):=rfl
end Go.Proofs.YtbncnimfgdelaaaGreat
