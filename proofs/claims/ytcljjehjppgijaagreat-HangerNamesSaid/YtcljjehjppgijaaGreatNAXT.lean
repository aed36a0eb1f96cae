/- The table of the seat's functions. Printed by a program. -/
import Derived.Test.YtcljjehjppgijaaGreatNAX1
import Derived.Test.YtcljjehjppgijaaGreatNAIN
import Derived.Test.YtcljjehjppgijaaGreatChecked
set_option maxRecDepth 100000
namespace Go.Proofs.YtcljjehjppgijaaGreat
open Go.Vm
theorem gJ:Go.Proofs.Tryz.prog.follows .mixedOrders=true:=Go.Proofs.Tryz.checked.mixed
theorem WZ:pT Go.Proofs.Tryz.prog 125 (.shp (E6 3)):=aFe
theorem W0:pT Go.Proofs.Tryz.prog 126 (.prim false (cQ 3)):=⟨rfl,iB gJ (zero:=[.int .i64 0,.int .i64 0,.int .i64 0]) (by decide+kernel)⟩
theorem W2:pT Go.Proofs.Tryz.prog 178 (.prim false (cQ 3)):=⟨rfl,iB gJ (zero:=[.int .i64 0,.int .i64 0,.int .i64 0]) (by decide+kernel)⟩
theorem W3:pT Go.Proofs.Tryz.prog 179 (.prim false (cQ 3)):=⟨rfl,iB gJ (zero:=[.int .i64 0,.int .i64 0,.int .i64 0]) (by decide+kernel)⟩
theorem W4:pT Go.Proofs.Tryz.prog 180 (.prim false (cQ 5)):=⟨rfl,iB gJ (zero:=[.int .i64 0,.int .i64 0,.int .i64 0,.int .i64 0,.int .i64 0]) (by decide+kernel)⟩
theorem W5:pT Go.Proofs.Tryz.prog 181 (.prim false (cQ 1)):=⟨rfl,iB gJ (zero:=[.int .i64 0]) (by decide+kernel)⟩
theorem W6:pT Go.Proofs.Tryz.prog 182 (.prim false (cQ 1)):=⟨rfl,iB gJ (zero:=[.bool false]) (by decide+kernel)⟩
theorem W7:pT Go.Proofs.Tryz.prog 283 (.prim false uC):=⟨rfl,JV Go.Proofs.Tryz.func283 (by kernel_rfl) (by kernel_rfl) (by kernel_rfl) (by kernel_rfl)⟩
theorem W8:pT Go.Proofs.Tryz.prog 294 (.prim false (cQ 1)):=⟨rfl,iB gJ (zero:=[.int .i64 0]) (by decide+kernel)⟩
noncomputable def aG4:TT:= .node 162 (.node 73 (.node 46 (.node 18 (.node 12 (.node 9 (.node 7 (.leaf 3 (.code x3)) (.node 8 (.leaf 7 (.code x7)) (.leaf 8 (.code x8)))) (.node 10 (.leaf 9 (.code x9)) (.node 11 (.leaf 10 (.code x10)) (.leaf 11 (.code x11))))) (.node 15 (.node 13 (.leaf 12 (.code x12)) (.node 14 (.leaf 13 (.code x13)) (.leaf 14 (.code x14)))) (.node 16 (.leaf 15 (.code x15)) (.node 17 (.leaf 16 (.code x16)) (.leaf 17 (.code x17)))))) (.node 28 (.node 21 (.node 19 (.leaf 18 (.code x18)) (.node 20 (.leaf 19 (.code x19)) (.leaf 20 (.code x20)))) (.node 24 (.leaf 21 (.code x21)) (.node 27 (.leaf 24 (.code x24)) (.leaf 27 (.code x27))))) (.node 40 (.node 31 (.leaf 28 (.code x28)) (.node 32 (.leaf 31 (.code x31)) (.leaf 32 (.code x32)))) (.node 44 (.leaf 40 (.code x40)) (.node 45 (.leaf 44 (.code x44)) (.leaf 45 (.code x45))))))) (.node 58 (.node 52 (.node 49 (.node 47 (.leaf 46 (.code x46)) (.node 48 (.leaf 47 (.code x47)) (.leaf 48 (.code x48)))) (.node 50 (.leaf 49 (.code x49)) (.node 51 (.leaf 50 (.code x50)) (.leaf 51 (.code x51))))) (.node 55 (.node 53 (.leaf 52 (.code x52)) (.node 54 (.leaf 53 (.code x53)) (.leaf 54 (.code x54)))) (.node 56 (.leaf 55 (.code x55)) (.node 57 (.leaf 56 (.code x56)) (.leaf 57 (.code x57)))))) (.node 64 (.node 61 (.node 59 (.leaf 58 (.code x58)) (.node 60 (.leaf 59 (.code x59)) (.leaf 60 (.code x60)))) (.node 62 (.leaf 61 (.code x61)) (.node 63 (.leaf 62 (.code x62)) (.leaf 63 (.code x63))))) (.node 67 (.node 65 (.leaf 64 (.code x64)) (.node 66 (.leaf 65 (.code x65)) (.leaf 66 (.code x66)))) (.node 71 (.leaf 67 (.code x67)) (.node 72 (.leaf 71 (.code x71)) (.leaf 72 (.code x72)))))))) (.node 118 (.node 106 (.node 100 (.node 84 (.node 82 (.leaf 73 (.code x73)) (.node 83 (.leaf 82 (.code x82)) (.leaf 83 (.code x83)))) (.node 96 (.leaf 84 (.code x84)) (.node 97 (.leaf 96 (.code x96)) (.leaf 97 (.code x97))))) (.node 103 (.node 101 (.leaf 100 (.code aDh)) (.node 102 (.leaf 101 (.code aDi)) (.leaf 102 (.code aDj)))) (.node 104 (.leaf 103 (.code aDk)) (.node 105 (.leaf 104 (.code aDl)) (.leaf 105 (.code aDm)))))) (.node 112 (.node 109 (.node 107 (.leaf 106 (.code aDn)) (.node 108 (.leaf 107 (.code aDo)) (.leaf 108 (.code aDp)))) (.node 110 (.leaf 109 (.code aDq)) (.node 111 (.leaf 110 (.code aDr)) (.leaf 111 (.code aDs))))) (.node 115 (.node 113 (.leaf 112 (.code aDt)) (.node 114 (.leaf 113 (.code aDu)) (.leaf 114 (.code aDv)))) (.node 116 (.leaf 115 (.code aDw)) (.node 117 (.leaf 116 (.code aDx)) (.leaf 117 (.code aDy))))))) (.node 130 (.node 124 (.node 121 (.node 119 (.leaf 118 (.code aDz)) (.node 120 (.leaf 119 (.code aDA)) (.leaf 120 (.code aDB)))) (.node 122 (.leaf 121 (.code aDC)) (.node 123 (.leaf 122 (.code aDD)) (.leaf 123 (.code aDE))))) (.node 127 (.node 125 (.leaf 124 (.code aDF)) (.node 126 (.leaf 125 (.shp (E6 3))) (.leaf 126 (.prim false (cQ 3))))) (.node 128 (.leaf 127 (.code aDG)) (.node 129 (.leaf 128 (.code aDH)) (.leaf 129 (.code aDI)))))) (.node 145 (.node 133 (.node 131 (.leaf 130 (.code aDJ)) (.node 132 (.leaf 131 (.code aDK)) (.leaf 132 (.code aDL)))) (.node 137 (.leaf 133 (.code aDM)) (.node 140 (.leaf 137 (.code aDN)) (.leaf 140 (.code aDO))))) (.node 159 (.node 151 (.leaf 145 (.code aDP)) (.node 155 (.leaf 151 (.code aDQ)) (.leaf 155 (.code aDR)))) (.node 160 (.leaf 159 (.code aDS)) (.node 161 (.leaf 160 (.code aDT)) (.leaf 161 (.code aDU))))))))) (.node 225 (.node 186 (.node 174 (.node 168 (.node 165 (.node 163 (.leaf 162 (.code aDV)) (.node 164 (.leaf 163 (.code aDW)) (.leaf 164 (.code aDX)))) (.node 166 (.leaf 165 (.code aDY)) (.node 167 (.leaf 166 (.code aDZ)) (.leaf 167 (.code aD0))))) (.node 171 (.node 169 (.leaf 168 (.code aD1)) (.node 170 (.leaf 169 (.code aD2)) (.leaf 170 (.code aD3)))) (.node 172 (.leaf 171 (.code aD4)) (.node 173 (.leaf 172 (.code aD5)) (.leaf 173 (.code aD6)))))) (.node 180 (.node 177 (.node 175 (.leaf 174 (.code aD7)) (.node 176 (.leaf 175 (.code aD8)) (.leaf 176 (.code aD9)))) (.node 178 (.leaf 177 (.code aEa)) (.node 179 (.leaf 178 (.prim false (cQ 3))) (.leaf 179 (.prim false (cQ 3)))))) (.node 183 (.node 181 (.leaf 180 (.prim false (cQ 5))) (.node 182 (.leaf 181 (.prim false (cQ 1))) (.leaf 182 (.prim false (cQ 1))))) (.node 184 (.leaf 183 (.code aEb)) (.node 185 (.leaf 184 (.code aEc)) (.leaf 185 (.code aEd))))))) (.node 208 (.node 194 (.node 191 (.node 189 (.leaf 186 (.code aEe)) (.node 190 (.leaf 189 (.code aEf)) (.leaf 190 (.code aEg)))) (.node 192 (.leaf 191 (.code aEh)) (.node 193 (.leaf 192 (.code aEi)) (.leaf 193 (.code aEj))))) (.node 200 (.node 195 (.leaf 194 (.code aEk)) (.node 197 (.leaf 195 (.code aEl)) (.leaf 197 (.code aEm)))) (.node 204 (.leaf 200 (.code aEn)) (.node 205 (.leaf 204 (.code aEo)) (.leaf 205 (.code aEp)))))) (.node 219 (.node 215 (.node 212 (.leaf 208 (.code aEq)) (.node 213 (.leaf 212 (.code aEr)) (.leaf 213 (.code aEs)))) (.node 217 (.leaf 215 (.code aEt)) (.node 218 (.leaf 217 (.code aEu)) (.leaf 218 (.code aEv))))) (.node 222 (.node 220 (.leaf 219 (.code aEw)) (.node 221 (.leaf 220 (.code aEx)) (.leaf 221 (.code aEy)))) (.node 223 (.leaf 222 (.code aEz)) (.node 224 (.leaf 223 (.code aEA)) (.leaf 224 (.code aEB)))))))) (.node 266 (.node 238 (.node 231 (.node 228 (.node 226 (.leaf 225 (.code aEC)) (.node 227 (.leaf 226 (.code aED)) (.leaf 227 (.code aEE)))) (.node 229 (.leaf 228 (.code aEF)) (.node 230 (.leaf 229 (.code aEG)) (.leaf 230 (.code aEH))))) (.node 234 (.node 232 (.leaf 231 (.code aEI)) (.node 233 (.leaf 232 (.code VL)) (.leaf 233 (.code aEJ)))) (.node 236 (.leaf 234 (.code aEK)) (.node 237 (.leaf 236 (.code VP)) (.leaf 237 (.code VS)))))) (.node 259 (.node 244 (.node 239 (.leaf 238 (.code aEL)) (.node 240 (.leaf 239 (.code aEM)) (.leaf 240 (.code aEN)))) (.node 246 (.leaf 244 (.code aEO)) (.node 258 (.leaf 246 (.code aEP)) (.leaf 258 (.code aEQ))))) (.node 263 (.node 260 (.leaf 259 (.code aER)) (.node 262 (.leaf 260 (.code aES)) (.leaf 262 (.code aET)))) (.node 264 (.leaf 263 (.code aEU)) (.node 265 (.leaf 264 (.code aEV)) (.leaf 265 (.code aEW))))))) (.node 285 (.node 272 (.node 269 (.node 267 (.leaf 266 (.code aEX)) (.node 268 (.leaf 267 (.code N3)) (.leaf 268 (.code aEY)))) (.node 270 (.leaf 269 (.code aEZ)) (.node 271 (.leaf 270 (.code aE0)) (.leaf 271 (.code aE1))))) (.node 276 (.node 274 (.leaf 272 (.code aE2)) (.node 275 (.leaf 274 (.code WD)) (.leaf 275 (.code aE3)))) (.node 277 (.leaf 276 (.code aE4)) (.node 283 (.leaf 277 (.code aE5)) (.leaf 283 (.prim false uC)))))) (.node 291 (.node 288 (.node 286 (.leaf 285 (.code QJ)) (.node 287 (.leaf 286 (.code aE6)) (.leaf 287 (.code aE7)))) (.node 289 (.leaf 288 (.code aE8)) (.node 290 (.leaf 289 (.code WM)) (.leaf 290 (.code aE9))))) (.node 295 (.node 292 (.leaf 291 (.code WR)) (.node 294 (.leaf 292 (.code aFa)) (.leaf 294 (.prim false (cQ 1))))) (.node 296 (.leaf 295 (.code aFb)) (.node 297 (.leaf 296 (.code aFc)) (.leaf 297 (.code aFd)))))))))
theorem LY:aG4.All (pT Go.Proofs.Tryz.prog):=⟨⟨⟨⟨⟨⟨⟨aG0,⟨aG1,aG2⟩⟩,⟨aG3,⟨aCt,aCu⟩⟩⟩,⟨⟨aCv,⟨aCw,aCx⟩⟩,⟨aCy,⟨aCz,aCA⟩⟩⟩⟩,⟨⟨⟨aCB,⟨aCC,aCD⟩⟩,⟨aCE,⟨aCF,aCG⟩⟩⟩,⟨⟨aCH,⟨aCI,aCJ⟩⟩,⟨aCK,⟨aCL,aCM⟩⟩⟩⟩⟩,⟨⟨⟨⟨aCN,⟨aCO,aCP⟩⟩,⟨aCQ,⟨aCR,aCS⟩⟩⟩,⟨⟨aCT,⟨aCU,aCV⟩⟩,⟨aCW,⟨aCX,aCY⟩⟩⟩⟩,⟨⟨⟨aCZ,⟨aC0,aC1⟩⟩,⟨aC2,⟨aC3,aC4⟩⟩⟩,⟨⟨aC5,⟨aC6,aC7⟩⟩,⟨aC8,⟨aC9,aDa⟩⟩⟩⟩⟩⟩,⟨⟨⟨⟨⟨aDb,⟨aDc,aDd⟩⟩,⟨aDe,⟨aDf,aDg⟩⟩⟩,⟨⟨S2,⟨S3,S4⟩⟩,⟨S5,⟨S6,S7⟩⟩⟩⟩,⟨⟨⟨S8,⟨S9,TA⟩⟩,⟨TB,⟨TC,TD⟩⟩⟩,⟨⟨TE,⟨TF,TG⟩⟩,⟨TH,⟨TI,TJ⟩⟩⟩⟩⟩,⟨⟨⟨⟨TK,⟨TL,TM⟩⟩,⟨TN,⟨TO,TP⟩⟩⟩,⟨⟨TQ,⟨WZ,W0⟩⟩,⟨TR,⟨TS,TU⟩⟩⟩⟩,⟨⟨⟨TV,⟨TW,TX⟩⟩,⟨TY,⟨TZ,T0⟩⟩⟩,⟨⟨T1,⟨T2,T3⟩⟩,⟨T4,⟨T5,T6⟩⟩⟩⟩⟩⟩⟩,⟨⟨⟨⟨⟨⟨T7,⟨T8,T9⟩⟩,⟨UA,⟨UB,UC⟩⟩⟩,⟨⟨UD,⟨UE,UF⟩⟩,⟨UG,⟨UH,UI⟩⟩⟩⟩,⟨⟨⟨UJ,⟨UK,UL⟩⟩,⟨UM,⟨W2,W3⟩⟩⟩,⟨⟨W4,⟨W5,W6⟩⟩,⟨UN,⟨UO,UP⟩⟩⟩⟩⟩,⟨⟨⟨⟨UQ,⟨UR,US⟩⟩,⟨UT,⟨UU,UV⟩⟩⟩,⟨⟨UW,⟨UX,UY⟩⟩,⟨UZ,⟨U0,U1⟩⟩⟩⟩,⟨⟨⟨U2,⟨U3,U4⟩⟩,⟨U5,⟨U6,U7⟩⟩⟩,⟨⟨U8,⟨U9,VA⟩⟩,⟨VB,⟨VC,VD⟩⟩⟩⟩⟩⟩,⟨⟨⟨⟨⟨VE,⟨VF,VG⟩⟩,⟨VH,⟨VI,VJ⟩⟩⟩,⟨⟨VK,⟨VM,VN⟩⟩,⟨VO,⟨VQ,VT⟩⟩⟩⟩,⟨⟨⟨VU,⟨VV,VW⟩⟩,⟨VX,⟨VY,VZ⟩⟩⟩,⟨⟨V0,⟨V1,V2⟩⟩,⟨V3,⟨V4,V5⟩⟩⟩⟩⟩,⟨⟨⟨⟨V6,⟨V7,V8⟩⟩,⟨V9,⟨WA,WB⟩⟩⟩,⟨⟨WC,⟨WE,WF⟩⟩,⟨WG,⟨WH,W7⟩⟩⟩⟩,⟨⟨⟨WI,⟨WJ,WK⟩⟩,⟨WL,⟨WN,WQ⟩⟩⟩,⟨⟨WT,⟨WU,W8⟩⟩,⟨WV,⟨WW,WX⟩⟩⟩⟩⟩⟩⟩⟩
noncomputable def tab:iH:=aG4.get
theorem aB1:tab 3=some (.code x3):=rfl
theorem aG5:tab 7=some (.code x7):=rfl
theorem aG6:tab 8=some (.code x8):=rfl
theorem aG7:tab 9=some (.code x9):=rfl
theorem QM:tab 10=some (.code x10):=rfl
theorem aFf:tab 11=some (.code x11):=rfl
theorem aFg:tab 12=some (.code x12):=rfl
theorem aFh:tab 13=some (.code x13):=rfl
theorem aFi:tab 14=some (.code x14):=rfl
theorem aFj:tab 15=some (.code x15):=rfl
theorem aFk:tab 16=some (.code x16):=rfl
theorem aFl:tab 17=some (.code x17):=rfl
theorem aFm:tab 18=some (.code x18):=rfl
theorem aFn:tab 19=some (.code x19):=rfl
theorem aFo:tab 20=some (.code x20):=rfl
theorem aFp:tab 21=some (.code x21):=rfl
theorem aFq:tab 24=some (.code x24):=rfl
theorem aFr:tab 27=some (.code x27):=rfl
theorem aFs:tab 28=some (.code x28):=rfl
theorem aFt:tab 31=some (.code x31):=rfl
theorem aFu:tab 32=some (.code x32):=rfl
theorem aFv:tab 40=some (.code x40):=rfl
theorem aFw:tab 44=some (.code x44):=rfl
theorem aFx:tab 45=some (.code x45):=rfl
theorem QN:tab 46=some (.code x46):=rfl
theorem aFy:tab 47=some (.code x47):=rfl
theorem aFz:tab 48=some (.code x48):=rfl
theorem aFA:tab 49=some (.code x49):=rfl
theorem aFB:tab 50=some (.code x50):=rfl
theorem aFC:tab 51=some (.code x51):=rfl
theorem aFD:tab 52=some (.code x52):=rfl
theorem aFE:tab 53=some (.code x53):=rfl
theorem aFF:tab 54=some (.code x54):=rfl
theorem aFG:tab 55=some (.code x55):=rfl
theorem aFH:tab 56=some (.code x56):=rfl
theorem KP:tab 57=some (.code x57):=rfl
theorem QO:tab 58=some (.code x58):=rfl
theorem aFI:tab 59=some (.code x59):=rfl
theorem QP:tab 60=some (.code x60):=rfl
theorem aFJ:tab 61=some (.code x61):=rfl
theorem QQ:tab 62=some (.code x62):=rfl
theorem aFK:tab 63=some (.code x63):=rfl
theorem aFL:tab 64=some (.code x64):=rfl
theorem aFM:tab 65=some (.code x65):=rfl
theorem aFN:tab 66=some (.code x66):=rfl
theorem aFO:tab 67=some (.code x67):=rfl
theorem aFP:tab 71=some (.code x71):=rfl
theorem aFQ:tab 72=some (.code x72):=rfl
theorem aFR:tab 73=some (.code x73):=rfl
theorem aFS:tab 82=some (.code x82):=rfl
theorem aFT:tab 83=some (.code x83):=rfl
theorem aFU:tab 84=some (.code x84):=rfl
theorem aFV:tab 96=some (.code x96):=rfl
theorem aFW:tab 97=some (.code x97):=rfl
theorem W9:tab 100=some (.code aDh):=rfl
theorem XA:tab 101=some (.code aDi):=rfl
theorem XB:tab 102=some (.code aDj):=rfl
theorem LZ:tab 103=some (.code aDk):=rfl
theorem XC:tab 104=some (.code aDl):=rfl
theorem L0:tab 105=some (.code aDm):=rfl
theorem L1:tab 106=some (.code aDn):=rfl
theorem F2:tab 107=some (.code aDo):=rfl
theorem XD:tab 108=some (.code aDp):=rfl
theorem L2:tab 109=some (.code aDq):=rfl
theorem F3:tab 110=some (.code aDr):=rfl
theorem L3:tab 111=some (.code aDs):=rfl
theorem XE:tab 112=some (.code aDt):=rfl
theorem XF:tab 113=some (.code aDu):=rfl
theorem XG:tab 114=some (.code aDv):=rfl
theorem XH:tab 115=some (.code aDw):=rfl
theorem XI:tab 116=some (.code aDx):=rfl
theorem XJ:tab 117=some (.code aDy):=rfl
theorem XK:tab 118=some (.code aDz):=rfl
theorem XL:tab 119=some (.code aDA):=rfl
theorem XM:tab 120=some (.code aDB):=rfl
theorem L4:tab 121=some (.code aDC):=rfl
theorem XN:tab 122=some (.code aDD):=rfl
theorem XO:tab 123=some (.code aDE):=rfl
theorem XP:tab 124=some (.code aDF):=rfl
theorem XQ:tab 125=some (.shp (E6 3)):=rfl
theorem XS:tab 126=some (.prim false (cQ 3)):=rfl
theorem XT:tab 127=some (.code aDG):=rfl
theorem XU:tab 128=some (.code aDH):=rfl
theorem XV:tab 129=some (.code aDI):=rfl
theorem XW:tab 130=some (.code aDJ):=rfl
theorem XX:tab 131=some (.code aDK):=rfl
theorem XY:tab 132=some (.code aDL):=rfl
theorem XZ:tab 133=some (.code aDM):=rfl
theorem X0:tab 137=some (.code aDN):=rfl
theorem X1:tab 140=some (.code aDO):=rfl
theorem X2:tab 145=some (.code aDP):=rfl
theorem X3:tab 151=some (.code aDQ):=rfl
theorem X4:tab 155=some (.code aDR):=rfl
theorem X5:tab 159=some (.code aDS):=rfl
theorem X6:tab 160=some (.code aDT):=rfl
theorem X7:tab 161=some (.code aDU):=rfl
theorem X8:tab 162=some (.code aDV):=rfl
theorem X9:tab 163=some (.code aDW):=rfl
theorem YA:tab 164=some (.code aDX):=rfl
theorem L5:tab 165=some (.code aDY):=rfl
theorem YB:tab 166=some (.code aDZ):=rfl
theorem YC:tab 167=some (.code aD0):=rfl
theorem YD:tab 168=some (.code aD1):=rfl
theorem YE:tab 169=some (.code aD2):=rfl
theorem YF:tab 170=some (.code aD3):=rfl
theorem YG:tab 171=some (.code aD4):=rfl
theorem YH:tab 172=some (.code aD5):=rfl
theorem YI:tab 173=some (.code aD6):=rfl
theorem YJ:tab 174=some (.code aD7):=rfl
theorem YK:tab 175=some (.code aD8):=rfl
theorem YL:tab 176=some (.code aD9):=rfl
theorem L6:tab 177=some (.code aEa):=rfl
theorem YM:tab 178=some (.prim false (cQ 3)):=rfl
theorem YN:tab 179=some (.prim false (cQ 3)):=rfl
theorem YO:tab 180=some (.prim false (cQ 5)):=rfl
theorem YP:tab 181=some (.prim false (cQ 1)):=rfl
theorem YQ:tab 182=some (.prim false (cQ 1)):=rfl
theorem YR:tab 183=some (.code aEb):=rfl
theorem L7:tab 184=some (.code aEc):=rfl
theorem YS:tab 185=some (.code aEd):=rfl
theorem YT:tab 186=some (.code aEe):=rfl
theorem YU:tab 189=some (.code aEf):=rfl
theorem YV:tab 190=some (.code aEg):=rfl
theorem YW:tab 191=some (.code aEh):=rfl
theorem YX:tab 192=some (.code aEi):=rfl
theorem YY:tab 193=some (.code aEj):=rfl
theorem YZ:tab 194=some (.code aEk):=rfl
theorem L8:tab 195=some (.code aEl):=rfl
theorem Y0:tab 197=some (.code aEm):=rfl
theorem Y1:tab 200=some (.code aEn):=rfl
theorem Y2:tab 204=some (.code aEo):=rfl
theorem Y3:tab 205=some (.code aEp):=rfl
theorem Y4:tab 208=some (.code aEq):=rfl
theorem L9:tab 212=some (.code aEr):=rfl
theorem Y5:tab 213=some (.code aEs):=rfl
theorem Y6:tab 215=some (.code aEt):=rfl
theorem Y7:tab 217=some (.code aEu):=rfl
theorem Y8:tab 218=some (.code aEv):=rfl
theorem Y9:tab 219=some (.code aEw):=rfl
theorem ZA:tab 220=some (.code aEx):=rfl
theorem ZB:tab 221=some (.code aEy):=rfl
theorem ZC:tab 222=some (.code aEz):=rfl
theorem ZD:tab 223=some (.code aEA):=rfl
theorem ZE:tab 224=some (.code aEB):=rfl
theorem ZF:tab 225=some (.code aEC):=rfl
theorem ZG:tab 226=some (.code aED):=rfl
theorem ZH:tab 227=some (.code aEE):=rfl
theorem ZI:tab 228=some (.code aEF):=rfl
theorem ZJ:tab 229=some (.code aEG):=rfl
theorem ZK:tab 230=some (.code aEH):=rfl
theorem ZL:tab 231=some (.code aEI):=rfl
theorem MA:tab 232=some (.code VL):=rfl
theorem ZM:tab 233=some (.code aEJ):=rfl
theorem ZN:tab 234=some (.code aEK):=rfl
theorem ZO:tab 236=some (.code VP):=rfl
theorem ZP:tab 237=some (.code VS):=rfl
theorem ZQ:tab 238=some (.code aEL):=rfl
theorem ZR:tab 239=some (.code aEM):=rfl
theorem ZS:tab 240=some (.code aEN):=rfl
theorem ZT:tab 244=some (.code aEO):=rfl
theorem ZU:tab 246=some (.code aEP):=rfl
theorem MB:tab 258=some (.code aEQ):=rfl
theorem ZV:tab 259=some (.code aER):=rfl
theorem ZW:tab 260=some (.code aES):=rfl
theorem ZX:tab 262=some (.code aET):=rfl
theorem ZY:tab 263=some (.code aEU):=rfl
theorem ZZ:tab 264=some (.code aEV):=rfl
theorem Z0:tab 265=some (.code aEW):=rfl
theorem Z1:tab 266=some (.code aEX):=rfl
theorem F4:tab 267=some (.code N3):=rfl
theorem MC:tab 268=some (.code aEY):=rfl
theorem Z2:tab 269=some (.code aEZ):=rfl
theorem Z3:tab 270=some (.code aE0):=rfl
theorem Z4:tab 271=some (.code aE1):=rfl
theorem Z5:tab 272=some (.code aE2):=rfl
theorem Z6:tab 274=some (.code WD):=rfl
theorem Z7:tab 275=some (.code aE3):=rfl
theorem Z8:tab 276=some (.code aE4):=rfl
theorem Z9:tab 277=some (.code aE5):=rfl
theorem aAa:tab 283=some (.prim false uC):=rfl
theorem MD:tab 285=some (.code QJ):=rfl
theorem aAb:tab 286=some (.code aE6):=rfl
theorem ME:tab 287=some (.code aE7):=rfl
theorem aAc:tab 288=some (.code aE8):=rfl
theorem MF:tab 289=some (.code WM):=rfl
theorem aAd:tab 290=some (.code aE9):=rfl
theorem MG:tab 291=some (.code WR):=rfl
theorem aAe:tab 292=some (.code aFa):=rfl
theorem aAf:tab 294=some (.prim false (cQ 1)):=rfl
theorem aAg:tab 295=some (.code aFb):=rfl
theorem aAh:tab 296=some (.code aFc):=rfl
theorem aAi:tab 297=some (.code aFd):=rfl
end Go.Proofs.YtcljjehjppgijaaGreat
