/- The table of the seat's functions. Printed by a program. -/
import Derived.Test.YtlnclppkepgdmaaGreatEAX1
import Derived.Test.YtlnclppkepgdmaaGreatEAX2
import Derived.Test.YtlnclppkepgdmaaGreatEAIO
import Derived.Test.YtlnclppkepgdmaaGreatChecked
set_option maxRecDepth 100000
namespace Go.Proofs.YtlnclppkepgdmaaGreat
open Go.Vm
theorem gM:Go.Proofs.Tryz.prog.follows .mixedOrders=true:=Go.Proofs.Tryz.checked.mixed
theorem aFH:pZ Go.Proofs.Tryz.prog 67 (.prim false (cR 1)):=⟨rfl,hY gM (zero:=[.int .i64 0]) (by decide+kernel)⟩
theorem aFI:pZ Go.Proofs.Tryz.prog 70 (.shp (F0 KP)):=aFG
theorem XL:pZ Go.Proofs.Tryz.prog 124 (.prim false (cR 3)):=⟨rfl,hY gM (zero:=[.int .i64 0,.int .i64 0,.int .i64 0]) (by decide+kernel)⟩
theorem XM:pZ Go.Proofs.Tryz.prog 181 (.prim false (cR 3)):=⟨rfl,hY gM (zero:=[.int .i64 0,.int .i64 0,.int .i64 0]) (by decide+kernel)⟩
theorem XN:pZ Go.Proofs.Tryz.prog 182 (.prim false (cR 3)):=⟨rfl,hY gM (zero:=[.int .i64 0,.int .i64 0,.int .i64 0]) (by decide+kernel)⟩
theorem XO:pZ Go.Proofs.Tryz.prog 183 (.prim false (cR 5)):=⟨rfl,hY gM (zero:=[.int .i64 0,.int .i64 0,.int .i64 0,.int .i64 0,.int .i64 0]) (by decide+kernel)⟩
theorem XP:pZ Go.Proofs.Tryz.prog 184 (.prim false (cR 1)):=⟨rfl,hY gM (zero:=[.bool false]) (by decide+kernel)⟩
theorem XQ:pZ Go.Proofs.Tryz.prog 300 (.prim false uE):=⟨rfl,KD Go.Proofs.Tryz.func300 (by kernel_rfl) (by kernel_rfl) (by kernel_rfl) (by kernel_rfl)⟩
theorem XS:pZ Go.Proofs.Tryz.prog 315 (.prim false (cR 1)):=⟨rfl,hY gM (zero:=[.int .i64 0]) (by decide+kernel)⟩
noncomputable def aHN:TT:= .node 155 (.node 87 (.node 50 (.node 28 (.node 19 (.node 15 (.node 11 (.leaf 5 (.code x5)) (.node 12 (.leaf 11 (.code x11)) (.leaf 12 (.code x12)))) (.node 17 (.leaf 15 (.code x15)) (.node 18 (.leaf 17 (.code x17)) (.leaf 18 (.code x18))))) (.node 25 (.node 21 (.leaf 19 (.code x19)) (.node 23 (.leaf 21 (.code x21)) (.leaf 23 (.code x23)))) (.node 26 (.leaf 25 (.code x25)) (.node 27 (.leaf 26 (.code x26)) (.leaf 27 (.code x27)))))) (.node 40 (.node 32 (.node 29 (.leaf 28 (.code x28)) (.node 31 (.leaf 29 (.code x29)) (.leaf 31 (.code x31)))) (.node 33 (.leaf 32 (.code x32)) (.node 36 (.leaf 33 (.code x33)) (.leaf 36 (.code x36))))) (.node 44 (.node 41 (.leaf 40 (.code x40)) (.node 42 (.leaf 41 (.code x41)) (.leaf 42 (.code x42)))) (.node 48 (.node 47 (.leaf 44 (.code x44)) (.leaf 47 (.code x47))) (.node 49 (.leaf 48 (.code x48)) (.leaf 49 (.code x49))))))) (.node 67 (.node 59 (.node 53 (.node 51 (.leaf 50 (.code x50)) (.node 52 (.leaf 51 (.code x51)) (.leaf 52 (.code x52)))) (.node 54 (.leaf 53 (.code x53)) (.node 58 (.leaf 54 (.code x54)) (.leaf 58 (.code x58))))) (.node 62 (.node 60 (.leaf 59 (.code x59)) (.node 61 (.leaf 60 (.code x60)) (.leaf 61 (.code x61)))) (.node 65 (.node 63 (.leaf 62 (.code x62)) (.leaf 63 (.code x63))) (.node 66 (.leaf 65 (.code x65)) (.leaf 66 (.code x66)))))) (.node 73 (.node 70 (.node 68 (.leaf 67 (.prim false (cR 1))) (.node 69 (.leaf 68 (.code x68)) (.leaf 69 (.code x69)))) (.node 71 (.leaf 70 (.shp (F0 KP))) (.node 72 (.leaf 71 (.code x71)) (.leaf 72 (.code x72))))) (.node 83 (.node 74 (.leaf 73 (.code x73)) (.node 82 (.leaf 74 (.code x74)) (.leaf 82 (.code x82)))) (.node 85 (.node 84 (.leaf 83 (.code x83)) (.leaf 84 (.code x84))) (.node 86 (.leaf 85 (.code x85)) (.leaf 86 (.code x86)))))))) (.node 119 (.node 104 (.node 94 (.node 90 (.node 88 (.leaf 87 (.code x87)) (.node 89 (.leaf 88 (.code x88)) (.leaf 89 (.code x89)))) (.node 91 (.leaf 90 (.code x90)) (.node 92 (.leaf 91 (.code x91)) (.leaf 92 (.code x92))))) (.node 97 (.node 95 (.leaf 94 (.code x94)) (.node 96 (.leaf 95 (.code x95)) (.leaf 96 (.code x96)))) (.node 98 (.leaf 97 (.code x97)) (.node 103 (.leaf 98 (.code x98)) (.leaf 103 (.code aDI)))))) (.node 110 (.node 107 (.node 105 (.leaf 104 (.code aDJ)) (.node 106 (.leaf 105 (.code aDK)) (.leaf 106 (.code aDL)))) (.node 108 (.leaf 107 (.code aDM)) (.node 109 (.leaf 108 (.code aDN)) (.leaf 109 (.code aDO))))) (.node 113 (.node 111 (.leaf 110 (.code aDP)) (.node 112 (.leaf 111 (.code aDQ)) (.leaf 112 (.code aDR)))) (.node 115 (.node 114 (.leaf 113 (.code aDS)) (.leaf 114 (.code aDT))) (.node 116 (.leaf 115 (.code aDU)) (.leaf 116 (.code TV))))))) (.node 137 (.node 128 (.node 124 (.node 122 (.leaf 119 (.code aDV)) (.node 123 (.leaf 122 (.code aDW)) (.leaf 123 (.code aDX)))) (.node 125 (.leaf 124 (.prim false (cR 3))) (.node 126 (.leaf 125 (.code aDY)) (.leaf 126 (.code aDZ))))) (.node 131 (.node 129 (.leaf 128 (.code aD0)) (.node 130 (.leaf 129 (.code aD1)) (.leaf 130 (.code aD2)))) (.node 133 (.node 132 (.leaf 131 (.code Q1)) (.leaf 132 (.code OM))) (.node 134 (.leaf 133 (.code aD3)) (.leaf 134 (.code IX)))))) (.node 148 (.node 140 (.node 138 (.leaf 137 (.code T9)) (.node 139 (.leaf 138 (.code aD4)) (.leaf 139 (.code aD5)))) (.node 143 (.leaf 140 (.code aD6)) (.node 146 (.leaf 143 (.code aD7)) (.leaf 146 (.code aD8))))) (.node 151 (.node 149 (.leaf 148 (.code aD9)) (.node 150 (.leaf 149 (.code aEa)) (.leaf 150 (.code aEb)))) (.node 153 (.node 152 (.leaf 151 (.code aEc)) (.leaf 152 (.code aEd))) (.node 154 (.leaf 153 (.code aEe)) (.leaf 154 (.code aEf))))))))) (.node 235 (.node 192 (.node 176 (.node 170 (.node 160 (.node 156 (.leaf 155 (.code aEg)) (.node 159 (.leaf 156 (.code aEh)) (.leaf 159 (.code aEi)))) (.node 163 (.leaf 160 (.code aEj)) (.node 169 (.leaf 163 (.code aEk)) (.leaf 169 (.code aEl))))) (.node 173 (.node 171 (.leaf 170 (.code aEm)) (.node 172 (.leaf 171 (.code aEn)) (.leaf 172 (.code aEo)))) (.node 174 (.leaf 173 (.code aEp)) (.node 175 (.leaf 174 (.code aEq)) (.leaf 175 (.code aEr)))))) (.node 182 (.node 179 (.node 177 (.leaf 176 (.code aEs)) (.node 178 (.leaf 177 (.code aEt)) (.leaf 178 (.code aEu)))) (.node 180 (.leaf 179 (.code aEv)) (.node 181 (.leaf 180 (.code aEw)) (.leaf 181 (.prim false (cR 3)))))) (.node 185 (.node 183 (.leaf 182 (.prim false (cR 3))) (.node 184 (.leaf 183 (.prim false (cR 5))) (.leaf 184 (.prim false (cR 1))))) (.node 187 (.node 186 (.leaf 185 (.code aEx)) (.leaf 186 (.code aEy))) (.node 191 (.leaf 187 (.code aEz)) (.leaf 191 (.code aEA))))))) (.node 218 (.node 198 (.node 195 (.node 193 (.leaf 192 (.code aEB)) (.node 194 (.leaf 193 (.code aEC)) (.leaf 194 (.code aED)))) (.node 196 (.leaf 195 (.code aEE)) (.node 197 (.leaf 196 (.code aEF)) (.leaf 197 (.code aEG))))) (.node 201 (.node 199 (.leaf 198 (.code aEH)) (.node 200 (.leaf 199 (.code Q2)) (.leaf 200 (.code K9)))) (.node 214 (.node 213 (.leaf 201 (.code ON)) (.leaf 213 (.code aEI))) (.node 217 (.leaf 214 (.code aEJ)) (.leaf 217 (.code aEK)))))) (.node 226 (.node 222 (.node 220 (.leaf 218 (.code aEL)) (.node 221 (.leaf 220 (.code aEM)) (.leaf 221 (.code aEN)))) (.node 223 (.leaf 222 (.code aEO)) (.node 225 (.leaf 223 (.code aEP)) (.leaf 225 (.code aEQ))))) (.node 231 (.node 227 (.leaf 226 (.code aER)) (.node 229 (.leaf 227 (.code aES)) (.leaf 229 (.code aET)))) (.node 233 (.node 232 (.leaf 231 (.code aEU)) (.leaf 232 (.code aEV))) (.node 234 (.leaf 233 (.code aEW)) (.leaf 234 (.code aEX)))))))) (.node 283 (.node 249 (.node 241 (.node 238 (.node 236 (.leaf 235 (.code aEY)) (.node 237 (.leaf 236 (.code aEZ)) (.leaf 237 (.code aE0)))) (.node 239 (.leaf 238 (.code aE1)) (.node 240 (.leaf 239 (.code aE2)) (.leaf 240 (.code aE3))))) (.node 244 (.node 242 (.leaf 241 (.code aE4)) (.node 243 (.leaf 242 (.code aE5)) (.leaf 243 (.code aE6)))) (.node 246 (.node 245 (.leaf 244 (.code V8)) (.leaf 245 (.code aE7))) (.node 247 (.leaf 246 (.code WB)) (.leaf 247 (.code aE8)))))) (.node 260 (.node 252 (.node 250 (.leaf 249 (.code aE9)) (.node 251 (.leaf 250 (.code aFa)) (.leaf 251 (.code WG)))) (.node 253 (.leaf 252 (.code aFb)) (.node 254 (.leaf 253 (.code aFc)) (.leaf 254 (.code aFd))))) (.node 271 (.node 261 (.leaf 260 (.code aFe)) (.node 262 (.leaf 261 (.code aFf)) (.leaf 262 (.code aFg)))) (.node 273 (.node 272 (.leaf 271 (.code aFh)) (.leaf 272 (.code aFi))) (.node 282 (.leaf 273 (.code aFj)) (.leaf 282 (.code aFk))))))) (.node 300 (.node 289 (.node 286 (.node 284 (.leaf 283 (.code aFl)) (.node 285 (.leaf 284 (.code aFm)) (.leaf 285 (.code aFn)))) (.node 287 (.leaf 286 (.code OO)) (.node 288 (.leaf 287 (.code aFo)) (.leaf 288 (.code aFp))))) (.node 292 (.node 290 (.leaf 289 (.code aFq)) (.node 291 (.leaf 290 (.code aFr)) (.leaf 291 (.code aFs)))) (.node 294 (.node 293 (.leaf 292 (.code aFt)) (.leaf 293 (.code aFu))) (.node 296 (.leaf 294 (.code aFv)) (.leaf 296 (.code aFw)))))) (.node 309 (.node 306 (.node 304 (.leaf 300 (.prim false uE)) (.node 305 (.leaf 304 (.code Q3)) (.leaf 305 (.code aFx)))) (.node 307 (.leaf 306 (.code aFy)) (.node 308 (.leaf 307 (.code aFz)) (.leaf 308 (.code aFA))))) (.node 312 (.node 310 (.leaf 309 (.code XD)) (.node 311 (.leaf 310 (.code aFB)) (.leaf 311 (.code XG)))) (.node 316 (.node 315 (.leaf 312 (.code aFC)) (.leaf 315 (.prim false (cR 1)))) (.node 317 (.leaf 316 (.code aFD)) (.leaf 317 (.code aFE)))))))))
theorem MH:aHN.All (pZ Go.Proofs.Tryz.prog):=⟨⟨⟨⟨⟨⟨⟨aHM,⟨aCL,aCM⟩⟩,⟨aCN,⟨aCO,aCP⟩⟩⟩,⟨⟨aCQ,⟨aCR,aCS⟩⟩,⟨aCT,⟨aCU,aCV⟩⟩⟩⟩,⟨⟨⟨aCW,⟨aCX,aCY⟩⟩,⟨aCZ,⟨aC0,aC1⟩⟩⟩,⟨⟨aC2,⟨aC3,aC4⟩⟩,⟨⟨aC5,aC6⟩,⟨aC7,aC8⟩⟩⟩⟩⟩,⟨⟨⟨⟨aC9,⟨aDa,aDb⟩⟩,⟨aDc,⟨aDd,aDe⟩⟩⟩,⟨⟨aDf,⟨aDg,aDh⟩⟩,⟨⟨aDi,aDj⟩,⟨aDk,aDl⟩⟩⟩⟩,⟨⟨⟨aFH,⟨aDm,aDn⟩⟩,⟨aFI,⟨aDo,aDp⟩⟩⟩,⟨⟨aDq,⟨aDr,aDs⟩⟩,⟨⟨aDt,aDu⟩,⟨aDv,aDw⟩⟩⟩⟩⟩⟩,⟨⟨⟨⟨⟨aDx,⟨aDy,aDz⟩⟩,⟨aDA,⟨aDB,aDC⟩⟩⟩,⟨⟨aDD,⟨aDE,aDF⟩⟩,⟨aDG,⟨aDH,TH⟩⟩⟩⟩,⟨⟨⟨TI,⟨TJ,TK⟩⟩,⟨TL,⟨TM,TN⟩⟩⟩,⟨⟨TO,⟨TP,TQ⟩⟩,⟨⟨TR,TS⟩,⟨TU,TW⟩⟩⟩⟩⟩,⟨⟨⟨⟨TX,⟨TY,TZ⟩⟩,⟨XL,⟨T0,T1⟩⟩⟩,⟨⟨T2,⟨T3,T4⟩⟩,⟨⟨T5,T6⟩,⟨T7,T8⟩⟩⟩⟩,⟨⟨⟨UA,⟨UB,UC⟩⟩,⟨UD,⟨UE,UF⟩⟩⟩,⟨⟨UG,⟨UH,UI⟩⟩,⟨⟨UJ,UK⟩,⟨UL,UM⟩⟩⟩⟩⟩⟩⟩,⟨⟨⟨⟨⟨⟨UN,⟨UO,UP⟩⟩,⟨UQ,⟨UR,US⟩⟩⟩,⟨⟨UT,⟨UU,UV⟩⟩,⟨UW,⟨UX,UY⟩⟩⟩⟩,⟨⟨⟨UZ,⟨U0,U1⟩⟩,⟨U2,⟨U3,XM⟩⟩⟩,⟨⟨XN,⟨XO,XP⟩⟩,⟨⟨U4,U5⟩,⟨U6,U7⟩⟩⟩⟩⟩,⟨⟨⟨⟨U8,⟨U9,VA⟩⟩,⟨VB,⟨VC,VD⟩⟩⟩,⟨⟨VE,⟨VF,VG⟩⟩,⟨⟨VH,VI⟩,⟨VJ,VK⟩⟩⟩⟩,⟨⟨⟨VL,⟨VM,VN⟩⟩,⟨VO,⟨VP,VQ⟩⟩⟩,⟨⟨VS,⟨VT,VU⟩⟩,⟨⟨VV,VW⟩,⟨VX,VY⟩⟩⟩⟩⟩⟩,⟨⟨⟨⟨⟨VZ,⟨V0,V1⟩⟩,⟨V2,⟨V3,V4⟩⟩⟩,⟨⟨V5,⟨V6,V7⟩⟩,⟨⟨V9,WA⟩,⟨WC,WD⟩⟩⟩⟩,⟨⟨⟨WE,⟨WF,WH⟩⟩,⟨WI,⟨WJ,WK⟩⟩⟩,⟨⟨WL,⟨WM,WN⟩⟩,⟨⟨WQ,WR⟩,⟨WT,WU⟩⟩⟩⟩⟩,⟨⟨⟨⟨WV,⟨WW,WX⟩⟩,⟨WY,⟨WZ,W0⟩⟩⟩,⟨⟨W1,⟨W2,W3⟩⟩,⟨⟨W4,W5⟩,⟨W6,W7⟩⟩⟩⟩,⟨⟨⟨XQ,⟨W8,W9⟩⟩,⟨XA,⟨XB,XC⟩⟩⟩,⟨⟨XE,⟨XF,XH⟩⟩,⟨⟨XI,XS⟩,⟨XJ,XK⟩⟩⟩⟩⟩⟩⟩⟩
noncomputable def tab:iE:=aHN.get
theorem aCn:tab 5=some (.code x5):=rfl
theorem Q5:tab 11=some (.code x11):=rfl
theorem aFJ:tab 12=some (.code x12):=rfl
theorem aFK:tab 15=some (.code x15):=rfl
theorem aFL:tab 17=some (.code x17):=rfl
theorem aFM:tab 18=some (.code x18):=rfl
theorem aFN:tab 19=some (.code x19):=rfl
theorem aFO:tab 21=some (.code x21):=rfl
theorem aFP:tab 23=some (.code x23):=rfl
theorem aFQ:tab 25=some (.code x25):=rfl
theorem aFR:tab 26=some (.code x26):=rfl
theorem aFS:tab 27=some (.code x27):=rfl
theorem aFT:tab 28=some (.code x28):=rfl
theorem aFU:tab 29=some (.code x29):=rfl
theorem aFV:tab 31=some (.code x31):=rfl
theorem aFW:tab 32=some (.code x32):=rfl
theorem aFX:tab 33=some (.code x33):=rfl
theorem aFY:tab 36=some (.code x36):=rfl
theorem aFZ:tab 40=some (.code x40):=rfl
theorem aF0:tab 41=some (.code x41):=rfl
theorem aF1:tab 42=some (.code x42):=rfl
theorem aF2:tab 44=some (.code x44):=rfl
theorem Q6:tab 47=some (.code x47):=rfl
theorem Q7:tab 48=some (.code x48):=rfl
theorem aF3:tab 49=some (.code x49):=rfl
theorem aF4:tab 50=some (.code x50):=rfl
theorem aF5:tab 51=some (.code x51):=rfl
theorem aF6:tab 52=some (.code x52):=rfl
theorem aF7:tab 53=some (.code x53):=rfl
theorem aF8:tab 54=some (.code x54):=rfl
theorem aF9:tab 58=some (.code x58):=rfl
theorem aGa:tab 59=some (.code x59):=rfl
theorem aGb:tab 60=some (.code x60):=rfl
theorem aGc:tab 61=some (.code x61):=rfl
theorem aGd:tab 62=some (.code x62):=rfl
theorem aGe:tab 63=some (.code x63):=rfl
theorem aGf:tab 65=some (.code x65):=rfl
theorem aGg:tab 66=some (.code x66):=rfl
theorem aGh:tab 67=some (.prim false (cR 1)):=rfl
theorem aGi:tab 68=some (.code x68):=rfl
theorem aGj:tab 69=some (.code x69):=rfl
theorem aGk:tab 70=some (.shp (F0 KP)):=rfl
theorem aGl:tab 71=some (.code x71):=rfl
theorem aGm:tab 72=some (.code x72):=rfl
theorem aGn:tab 73=some (.code x73):=rfl
theorem aGo:tab 74=some (.code x74):=rfl
theorem aGp:tab 82=some (.code x82):=rfl
theorem aGq:tab 83=some (.code x83):=rfl
theorem aGr:tab 84=some (.code x84):=rfl
theorem aGs:tab 85=some (.code x85):=rfl
theorem aGt:tab 86=some (.code x86):=rfl
theorem aGu:tab 87=some (.code x87):=rfl
theorem aGv:tab 88=some (.code x88):=rfl
theorem aGw:tab 89=some (.code x89):=rfl
theorem aGx:tab 90=some (.code x90):=rfl
theorem Q8:tab 91=some (.code x91):=rfl
theorem aGy:tab 92=some (.code x92):=rfl
theorem aGz:tab 94=some (.code x94):=rfl
theorem aGA:tab 95=some (.code x95):=rfl
theorem aGB:tab 96=some (.code x96):=rfl
theorem aGC:tab 97=some (.code x97):=rfl
theorem aGD:tab 98=some (.code x98):=rfl
theorem MI:tab 103=some (.code aDI):=rfl
theorem MJ:tab 104=some (.code aDJ):=rfl
theorem XT:tab 105=some (.code aDK):=rfl
theorem XU:tab 106=some (.code aDL):=rfl
theorem XV:tab 107=some (.code aDM):=rfl
theorem XW:tab 108=some (.code aDN):=rfl
theorem XX:tab 109=some (.code aDO):=rfl
theorem XY:tab 110=some (.code aDP):=rfl
theorem XZ:tab 111=some (.code aDQ):=rfl
theorem X0:tab 112=some (.code aDR):=rfl
theorem X1:tab 113=some (.code aDS):=rfl
theorem MK:tab 114=some (.code aDT):=rfl
theorem X2:tab 115=some (.code aDU):=rfl
theorem ML:tab 116=some (.code TV):=rfl
theorem X3:tab 119=some (.code aDV):=rfl
theorem X4:tab 122=some (.code aDW):=rfl
theorem X5:tab 123=some (.code aDX):=rfl
theorem X6:tab 124=some (.prim false (cR 3)):=rfl
theorem MM:tab 125=some (.code aDY):=rfl
theorem X7:tab 126=some (.code aDZ):=rfl
theorem X8:tab 128=some (.code aD0):=rfl
theorem X9:tab 129=some (.code aD1):=rfl
theorem YA:tab 130=some (.code aD2):=rfl
theorem MN:tab 131=some (.code Q1):=rfl
theorem GC:tab 132=some (.code OM):=rfl
theorem YB:tab 133=some (.code aD3):=rfl
theorem wS:tab 134=some (.code IX):=rfl
theorem MO:tab 137=some (.code T9):=rfl
theorem YC:tab 138=some (.code aD4):=rfl
theorem GD:tab 139=some (.code aD5):=rfl
theorem YD:tab 140=some (.code aD6):=rfl
theorem YE:tab 143=some (.code aD7):=rfl
theorem YF:tab 146=some (.code aD8):=rfl
theorem GE:tab 148=some (.code aD9):=rfl
theorem YG:tab 149=some (.code aEa):=rfl
theorem MP:tab 150=some (.code aEb):=rfl
theorem GF:tab 151=some (.code aEc):=rfl
theorem YH:tab 152=some (.code aEd):=rfl
theorem YI:tab 153=some (.code aEe):=rfl
theorem YJ:tab 154=some (.code aEf):=rfl
theorem YK:tab 155=some (.code aEg):=rfl
theorem YL:tab 156=some (.code aEh):=rfl
theorem YM:tab 159=some (.code aEi):=rfl
theorem YN:tab 160=some (.code aEj):=rfl
theorem YO:tab 163=some (.code aEk):=rfl
theorem MQ:tab 169=some (.code aEl):=rfl
theorem YP:tab 170=some (.code aEm):=rfl
theorem YQ:tab 171=some (.code aEn):=rfl
theorem YR:tab 172=some (.code aEo):=rfl
theorem YS:tab 173=some (.code aEp):=rfl
theorem YT:tab 174=some (.code aEq):=rfl
theorem YU:tab 175=some (.code aEr):=rfl
theorem YV:tab 176=some (.code aEs):=rfl
theorem YW:tab 177=some (.code aEt):=rfl
theorem YX:tab 178=some (.code aEu):=rfl
theorem YY:tab 179=some (.code aEv):=rfl
theorem MR:tab 180=some (.code aEw):=rfl
theorem YZ:tab 181=some (.prim false (cR 3)):=rfl
theorem Y0:tab 182=some (.prim false (cR 3)):=rfl
theorem Y1:tab 183=some (.prim false (cR 5)):=rfl
theorem Y2:tab 184=some (.prim false (cR 1)):=rfl
theorem Y3:tab 185=some (.code aEx):=rfl
theorem Y4:tab 186=some (.code aEy):=rfl
theorem Y5:tab 187=some (.code aEz):=rfl
theorem Y6:tab 191=some (.code aEA):=rfl
theorem Y7:tab 192=some (.code aEB):=rfl
theorem Y8:tab 193=some (.code aEC):=rfl
theorem Y9:tab 194=some (.code aED):=rfl
theorem ZA:tab 195=some (.code aEE):=rfl
theorem ZB:tab 196=some (.code aEF):=rfl
theorem ZC:tab 197=some (.code aEG):=rfl
theorem ZD:tab 198=some (.code aEH):=rfl
theorem MS:tab 199=some (.code Q2):=rfl
theorem AW:tab 200=some (.code K9):=rfl
theorem GG:tab 201=some (.code ON):=rfl
theorem ZE:tab 213=some (.code aEI):=rfl
theorem GH:tab 214=some (.code aEJ):=rfl
theorem ZF:tab 217=some (.code aEK):=rfl
theorem ZG:tab 218=some (.code aEL):=rfl
theorem ZH:tab 220=some (.code aEM):=rfl
theorem ZI:tab 221=some (.code aEN):=rfl
theorem ZJ:tab 222=some (.code aEO):=rfl
theorem ZK:tab 223=some (.code aEP):=rfl
theorem ZL:tab 225=some (.code aEQ):=rfl
theorem ZM:tab 226=some (.code aER):=rfl
theorem ZN:tab 227=some (.code aES):=rfl
theorem ZO:tab 229=some (.code aET):=rfl
theorem ZP:tab 231=some (.code aEU):=rfl
theorem ZQ:tab 232=some (.code aEV):=rfl
theorem ZR:tab 233=some (.code aEW):=rfl
theorem ZS:tab 234=some (.code aEX):=rfl
theorem ZT:tab 235=some (.code aEY):=rfl
theorem ZU:tab 236=some (.code aEZ):=rfl
theorem ZV:tab 237=some (.code aE0):=rfl
theorem ZW:tab 238=some (.code aE1):=rfl
theorem ZX:tab 239=some (.code aE2):=rfl
theorem ZY:tab 240=some (.code aE3):=rfl
theorem ZZ:tab 241=some (.code aE4):=rfl
theorem Z0:tab 242=some (.code aE5):=rfl
theorem Z1:tab 243=some (.code aE6):=rfl
theorem MT:tab 244=some (.code V8):=rfl
theorem Z2:tab 245=some (.code aE7):=rfl
theorem Z3:tab 246=some (.code WB):=rfl
theorem Z4:tab 247=some (.code aE8):=rfl
theorem Z5:tab 249=some (.code aE9):=rfl
theorem Z6:tab 250=some (.code aFa):=rfl
theorem Z7:tab 251=some (.code WG):=rfl
theorem Z8:tab 252=some (.code aFb):=rfl
theorem GI:tab 253=some (.code aFc):=rfl
theorem Z9:tab 254=some (.code aFd):=rfl
theorem aAa:tab 260=some (.code aFe):=rfl
theorem aAb:tab 261=some (.code aFf):=rfl
theorem aAc:tab 262=some (.code aFg):=rfl
theorem aAd:tab 271=some (.code aFh):=rfl
theorem aAe:tab 272=some (.code aFi):=rfl
theorem aAf:tab 273=some (.code aFj):=rfl
theorem aAg:tab 282=some (.code aFk):=rfl
theorem aAh:tab 283=some (.code aFl):=rfl
theorem aAi:tab 284=some (.code aFm):=rfl
theorem aAj:tab 285=some (.code aFn):=rfl
theorem GJ:tab 286=some (.code OO):=rfl
theorem MU:tab 287=some (.code aFo):=rfl
theorem aAk:tab 288=some (.code aFp):=rfl
theorem aAl:tab 289=some (.code aFq):=rfl
theorem aAm:tab 290=some (.code aFr):=rfl
theorem aAn:tab 291=some (.code aFs):=rfl
theorem aAo:tab 292=some (.code aFt):=rfl
theorem aAp:tab 293=some (.code aFu):=rfl
theorem aAq:tab 294=some (.code aFv):=rfl
theorem aAr:tab 296=some (.code aFw):=rfl
theorem aAs:tab 300=some (.prim false uE):=rfl
theorem MV:tab 304=some (.code Q3):=rfl
theorem aAt:tab 305=some (.code aFx):=rfl
theorem MW:tab 306=some (.code aFy):=rfl
theorem aAu:tab 307=some (.code aFz):=rfl
theorem aAv:tab 308=some (.code aFA):=rfl
theorem MX:tab 309=some (.code XD):=rfl
theorem aAw:tab 310=some (.code aFB):=rfl
theorem MY:tab 311=some (.code XG):=rfl
theorem aAx:tab 312=some (.code aFC):=rfl
theorem aAy:tab 315=some (.prim false (cR 1)):=rfl
theorem aAz:tab 316=some (.code aFD):=rfl
theorem aAA:tab 317=some (.code aFE):=rfl
end Go.Proofs.YtlnclppkepgdmaaGreat
