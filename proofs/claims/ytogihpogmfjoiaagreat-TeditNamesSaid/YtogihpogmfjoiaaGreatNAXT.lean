/- The table of the seat's functions. Printed by a program. -/
import Derived.Test.YtogihpogmfjoiaaGreatNAX1
import Derived.Test.YtogihpogmfjoiaaGreatNAX2
import Derived.Test.YtogihpogmfjoiaaGreatNAIN
import Derived.Test.YtogihpogmfjoiaaGreatNAIO
import Derived.Test.YtogihpogmfjoiaaGreatNAIC
import Derived.Test.YtogihpogmfjoiaaGreatChecked
set_option maxRecDepth 100000
namespace Go.Proofs.YtogihpogmfjoiaaGreat
open Go.Vm
theorem gX:Go.Proofs.Tryz.prog.follows .mixedOrders=true:=Go.Proofs.Tryz.checked.mixed
theorem aHf:nB Go.Proofs.Tryz.prog 40 (.prim false (cX 1)):=⟨rfl,iO gX (zero:=[.int .i64 0]) (by decide+kernel)⟩
theorem aHg:nB Go.Proofs.Tryz.prog 74 (.shp (GH 3)):=aHb
theorem aHh:nB Go.Proofs.Tryz.prog 75 (.prim false (cX 3)):=⟨rfl,iO gX (zero:=[.int .i64 0,.int .i64 0,.int .i64 0]) (by decide+kernel)⟩
theorem aHi:nB Go.Proofs.Tryz.prog 89 (.shp (G0 LR)):=aHd
theorem ZB:nB Go.Proofs.Tryz.prog 158 (.shp GF):=aHe
theorem ZC:nB Go.Proofs.Tryz.prog 218 (.prim false (cX 3)):=⟨rfl,iO gX (zero:=[.int .i64 0,.int .i64 0,.int .i64 0]) (by decide+kernel)⟩
theorem ZD:nB Go.Proofs.Tryz.prog 219 (.prim false (cX 3)):=⟨rfl,iO gX (zero:=[.int .i64 0,.int .i64 0,.int .i64 0]) (by decide+kernel)⟩
theorem ZE:nB Go.Proofs.Tryz.prog 220 (.prim false (cX 5)):=⟨rfl,iO gX (zero:=[.int .i64 0,.int .i64 0,.int .i64 0,.int .i64 0,.int .i64 0]) (by decide+kernel)⟩
theorem ZF:nB Go.Proofs.Tryz.prog 221 (.prim false (cX 1)):=⟨rfl,iO gX (zero:=[.bool false]) (by decide+kernel)⟩
theorem ZG:nB Go.Proofs.Tryz.prog 296 (.prim false vA):=⟨rfl,LC Go.Proofs.Tryz.func296 (by kernel_rfl) (by kernel_rfl) (by kernel_rfl) (by kernel_rfl)⟩
theorem ZH:nB Go.Proofs.Tryz.prog 308 (.prim false (cX 1)):=⟨rfl,iO gX (zero:=[.int .i64 0]) (by decide+kernel)⟩
noncomputable def aJo:TT:= .node 161 (.node 93 (.node 47 (.node 29 (.node 19 (.node 14 (.node 11 (.leaf 7 (.code x7)) (.node 12 (.leaf 11 (.code x11)) (.leaf 12 (.code x12)))) (.node 16 (.leaf 14 (.code x14)) (.node 17 (.leaf 16 (.code x16)) (.leaf 17 (.code x17))))) (.node 25 (.node 21 (.leaf 19 (.code x19)) (.node 24 (.leaf 21 (.code x21)) (.leaf 24 (.code x24)))) (.node 27 (.node 26 (.leaf 25 (.code x25)) (.leaf 26 (.code x26))) (.node 28 (.leaf 27 (.code x27)) (.leaf 28 (.code x28)))))) (.node 39 (.node 33 (.node 31 (.leaf 29 (.code x29)) (.node 32 (.leaf 31 (.code x31)) (.leaf 32 (.code x32)))) (.node 37 (.leaf 33 (.code x33)) (.node 38 (.leaf 37 (.code x37)) (.leaf 38 (.code x38))))) (.node 42 (.node 40 (.leaf 39 (.code x39)) (.node 41 (.leaf 40 (.prim false (cX 1))) (.leaf 41 (.code x41)))) (.node 44 (.node 43 (.leaf 42 (.code x42)) (.leaf 43 (.code x43))) (.node 45 (.leaf 44 (.code x44)) (.leaf 45 (.code x45))))))) (.node 75 (.node 65 (.node 62 (.node 49 (.leaf 47 (.code x47)) (.node 50 (.leaf 49 (.code x49)) (.leaf 50 (.code x50)))) (.node 63 (.leaf 62 (.code x62)) (.node 64 (.leaf 63 (.code x63)) (.leaf 64 (.code x64))))) (.node 71 (.node 66 (.leaf 65 (.code x65)) (.node 67 (.leaf 66 (.code x66)) (.leaf 67 (.code x67)))) (.node 73 (.node 72 (.leaf 71 (.code x71)) (.leaf 72 (.code x72))) (.node 74 (.leaf 73 (.code x73)) (.leaf 74 (.shp (GH 3))))))) (.node 86 (.node 79 (.node 76 (.leaf 75 (.prim false (cX 3))) (.node 77 (.leaf 76 (.code x76)) (.leaf 77 (.code x77)))) (.node 84 (.node 83 (.leaf 79 (.code x79)) (.leaf 83 (.code x83))) (.node 85 (.leaf 84 (.code x84)) (.leaf 85 (.code x85))))) (.node 89 (.node 87 (.leaf 86 (.code x86)) (.node 88 (.leaf 87 (.code x87)) (.leaf 88 (.code x88)))) (.node 91 (.node 90 (.leaf 89 (.shp (G0 LR))) (.leaf 90 (.code x90))) (.node 92 (.leaf 91 (.code x91)) (.leaf 92 (.code x92)))))))) (.node 126 (.node 107 (.node 99 (.node 96 (.node 94 (.leaf 93 (.code x93)) (.node 95 (.leaf 94 (.code x94)) (.leaf 95 (.code UT)))) (.node 97 (.leaf 96 (.code x96)) (.node 98 (.leaf 97 (.code x97)) (.leaf 98 (.code x98))))) (.node 103 (.node 100 (.leaf 99 (.code x99)) (.node 102 (.leaf 100 (.code aE3)) (.leaf 102 (.code aE4)))) (.node 105 (.node 104 (.leaf 103 (.code aE5)) (.leaf 104 (.code aE6))) (.node 106 (.leaf 105 (.code aE7)) (.leaf 106 (.code aE8)))))) (.node 118 (.node 114 (.node 110 (.leaf 107 (.code aE9)) (.node 113 (.leaf 110 (.code aFa)) (.leaf 113 (.code aFb)))) (.node 115 (.leaf 114 (.code aFc)) (.node 117 (.leaf 115 (.code aFd)) (.leaf 117 (.code aFe))))) (.node 121 (.node 119 (.leaf 118 (.code aFf)) (.node 120 (.leaf 119 (.code aFg)) (.leaf 120 (.code aFh)))) (.node 124 (.node 123 (.leaf 121 (.code aFi)) (.leaf 123 (.code aFj))) (.node 125 (.leaf 124 (.code aFk)) (.leaf 125 (.code aFl))))))) (.node 147 (.node 138 (.node 132 (.node 130 (.leaf 126 (.code aFm)) (.node 131 (.leaf 130 (.code aFn)) (.leaf 131 (.code aFo)))) (.node 133 (.leaf 132 (.code aFp)) (.node 137 (.leaf 133 (.code aFq)) (.leaf 137 (.code aFr))))) (.node 141 (.node 139 (.leaf 138 (.code aFs)) (.node 140 (.leaf 139 (.code aFt)) (.leaf 140 (.code aFu)))) (.node 143 (.node 142 (.leaf 141 (.code SD)) (.leaf 142 (.code PW))) (.node 146 (.leaf 143 (.code aFv)) (.leaf 146 (.code VP)))))) (.node 154 (.node 150 (.node 148 (.leaf 147 (.code VS)) (.node 149 (.leaf 148 (.code aFw)) (.leaf 149 (.code aFx)))) (.node 152 (.node 151 (.leaf 150 (.code aFy)) (.leaf 151 (.code aFz))) (.node 153 (.leaf 152 (.code aFA)) (.leaf 153 (.code aFB))))) (.node 157 (.node 155 (.leaf 154 (.code aFC)) (.node 156 (.leaf 155 (.code aFD)) (.leaf 156 (.code aFE)))) (.node 159 (.node 158 (.leaf 157 (.code aFF)) (.leaf 158 (.shp GF))) (.node 160 (.leaf 159 (.code aFG)) (.leaf 160 (.code aFH))))))))) (.node 236 (.node 195 (.node 181 (.node 169 (.node 164 (.node 162 (.leaf 161 (.code aFI)) (.node 163 (.leaf 162 (.code aFJ)) (.leaf 163 (.code aFK)))) (.node 165 (.leaf 164 (.code aFL)) (.node 166 (.leaf 165 (.code aFM)) (.leaf 166 (.code aFN))))) (.node 173 (.node 170 (.leaf 169 (.code aFO)) (.node 172 (.leaf 170 (.code aFP)) (.leaf 172 (.code aFQ)))) (.node 175 (.node 174 (.leaf 173 (.code aFR)) (.leaf 174 (.code aFS))) (.node 177 (.leaf 175 (.code aFT)) (.leaf 177 (.code aFU)))))) (.node 188 (.node 184 (.node 182 (.leaf 181 (.code aFV)) (.node 183 (.leaf 182 (.code aFW)) (.leaf 183 (.code aFX)))) (.node 185 (.leaf 184 (.code aFY)) (.node 186 (.leaf 185 (.code aFZ)) (.leaf 186 (.code aF0))))) (.node 191 (.node 189 (.leaf 188 (.code aF1)) (.node 190 (.leaf 189 (.code aF2)) (.leaf 190 (.code aF3)))) (.node 193 (.node 192 (.leaf 191 (.code aF4)) (.leaf 192 (.code aF5))) (.node 194 (.leaf 193 (.code aF6)) (.leaf 194 (.code aF7))))))) (.node 219 (.node 212 (.node 209 (.node 196 (.leaf 195 (.code SF)) (.node 197 (.leaf 196 (.code MC)) (.leaf 197 (.code PX)))) (.node 210 (.leaf 209 (.code aF8)) (.node 211 (.leaf 210 (.code aF9)) (.leaf 211 (.code W6))))) (.node 215 (.node 213 (.leaf 212 (.code aGa)) (.node 214 (.leaf 213 (.code aGb)) (.leaf 214 (.code aGc)))) (.node 217 (.node 216 (.leaf 215 (.code aGd)) (.leaf 216 (.code XC))) (.node 218 (.leaf 217 (.code aGe)) (.leaf 218 (.prim false (cX 3))))))) (.node 227 (.node 223 (.node 220 (.leaf 219 (.prim false (cX 3))) (.node 221 (.leaf 220 (.prim false (cX 5))) (.leaf 221 (.prim false (cX 1))))) (.node 225 (.node 224 (.leaf 223 (.code aGf)) (.leaf 224 (.code aGg))) (.node 226 (.leaf 225 (.code aGh)) (.leaf 226 (.code aGi))))) (.node 230 (.node 228 (.leaf 227 (.code aGj)) (.node 229 (.leaf 228 (.code aGk)) (.leaf 229 (.code aGl)))) (.node 232 (.node 231 (.leaf 230 (.code aGm)) (.leaf 231 (.code aGn))) (.node 235 (.leaf 232 (.code aGo)) (.leaf 235 (.code aGp)))))))) (.node 277 (.node 255 (.node 243 (.node 240 (.node 237 (.leaf 236 (.code aGq)) (.node 238 (.leaf 237 (.code aGr)) (.leaf 238 (.code aGs)))) (.node 241 (.leaf 240 (.code aGt)) (.node 242 (.leaf 241 (.code aGu)) (.leaf 242 (.code aGv))))) (.node 246 (.node 244 (.leaf 243 (.code aGw)) (.node 245 (.leaf 244 (.code XY)) (.leaf 245 (.code aGx)))) (.node 248 (.node 247 (.leaf 246 (.code aGy)) (.leaf 247 (.code aGz))) (.node 254 (.leaf 248 (.code aGA)) (.leaf 254 (.code aGB)))))) (.node 262 (.node 258 (.node 256 (.leaf 255 (.code aGC)) (.node 257 (.leaf 256 (.code aGD)) (.leaf 257 (.code aGE)))) (.node 260 (.node 259 (.leaf 258 (.code aGF)) (.leaf 259 (.code aGG))) (.node 261 (.leaf 260 (.code aGH)) (.leaf 261 (.code aGI))))) (.node 265 (.node 263 (.leaf 262 (.code aGJ)) (.node 264 (.leaf 263 (.code aGK)) (.leaf 264 (.code aGL)))) (.node 275 (.node 274 (.leaf 265 (.code aGM)) (.leaf 274 (.code aGN))) (.node 276 (.leaf 275 (.code aGO)) (.leaf 276 (.code aGP))))))) (.node 291 (.node 283 (.node 280 (.node 278 (.leaf 277 (.code aGQ)) (.node 279 (.leaf 278 (.code aGR)) (.leaf 279 (.code aGS)))) (.node 281 (.leaf 280 (.code aGT)) (.node 282 (.leaf 281 (.code aGU)) (.leaf 282 (.code aGV))))) (.node 287 (.node 285 (.leaf 283 (.code aGW)) (.node 286 (.leaf 285 (.code PY)) (.leaf 286 (.code aGX)))) (.node 289 (.node 288 (.leaf 287 (.code aGY)) (.leaf 288 (.code YT))) (.node 290 (.leaf 289 (.code aGZ)) (.leaf 290 (.code YW)))))) (.node 301 (.node 297 (.node 292 (.leaf 291 (.code aG0)) (.node 296 (.leaf 292 (.code aG1)) (.leaf 296 (.prim false vA)))) (.node 299 (.node 298 (.leaf 297 (.code aG2)) (.leaf 298 (.code aG3))) (.node 300 (.leaf 299 (.code aG4)) (.leaf 300 (.code aG5))))) (.node 304 (.node 302 (.leaf 301 (.code aG6)) (.node 303 (.leaf 302 (.code aG7)) (.leaf 303 (.code aG8)))) (.node 307 (.node 305 (.leaf 304 (.code aG9)) (.leaf 305 (.code SG))) (.node 308 (.leaf 307 (.code aHa)) (.leaf 308 (.prim false (cX 1))))))))))
theorem NK:aJo.All (nB Go.Proofs.Tryz.prog):=⟨⟨⟨⟨⟨⟨⟨aJn,⟨aEa,aEb⟩⟩,⟨aEc,⟨aEd,aEe⟩⟩⟩,⟨⟨aEf,⟨aEg,aEh⟩⟩,⟨⟨aEi,aEj⟩,⟨aEk,aEl⟩⟩⟩⟩,⟨⟨⟨aEm,⟨aEn,aEo⟩⟩,⟨aEp,⟨aEq,aEr⟩⟩⟩,⟨⟨aEs,⟨aHf,aEt⟩⟩,⟨⟨aEu,aEv⟩,⟨aEw,aEx⟩⟩⟩⟩⟩,⟨⟨⟨⟨aEy,⟨aEz,aEA⟩⟩,⟨aEB,⟨aEC,aED⟩⟩⟩,⟨⟨aEE,⟨aEF,aEG⟩⟩,⟨⟨aEH,aEI⟩,⟨aEJ,aHg⟩⟩⟩⟩,⟨⟨⟨aHh,⟨aEK,aEL⟩⟩,⟨⟨aEM,aEN⟩,⟨aEO,aEP⟩⟩⟩,⟨⟨aEQ,⟨aER,aES⟩⟩,⟨⟨aHi,aET⟩,⟨aEU,aEV⟩⟩⟩⟩⟩⟩,⟨⟨⟨⟨⟨aEW,⟨aEX,aEY⟩⟩,⟨aEZ,⟨aE0,aE1⟩⟩⟩,⟨⟨aE2,⟨UU,UV⟩⟩,⟨⟨UW,UX⟩,⟨UY,UZ⟩⟩⟩⟩,⟨⟨⟨U0,⟨U1,U2⟩⟩,⟨U3,⟨U4,U5⟩⟩⟩,⟨⟨U6,⟨U7,U8⟩⟩,⟨⟨U9,VA⟩,⟨VB,VC⟩⟩⟩⟩⟩,⟨⟨⟨⟨VD,⟨VE,VF⟩⟩,⟨VG,⟨VH,VI⟩⟩⟩,⟨⟨VJ,⟨VK,VL⟩⟩,⟨⟨VM,VN⟩,⟨VO,VQ⟩⟩⟩⟩,⟨⟨⟨VT,⟨VU,VV⟩⟩,⟨⟨VW,VX⟩,⟨VY,VZ⟩⟩⟩,⟨⟨V0,⟨V1,V2⟩⟩,⟨⟨V3,ZB⟩,⟨V4,V5⟩⟩⟩⟩⟩⟩⟩,⟨⟨⟨⟨⟨⟨V6,⟨V7,V8⟩⟩,⟨V9,⟨WA,WB⟩⟩⟩,⟨⟨WC,⟨WD,WE⟩⟩,⟨⟨WF,WG⟩,⟨WH,WI⟩⟩⟩⟩,⟨⟨⟨WJ,⟨WK,WL⟩⟩,⟨WM,⟨WN,WQ⟩⟩⟩,⟨⟨WR,⟨WT,WU⟩⟩,⟨⟨WV,WW⟩,⟨WX,WY⟩⟩⟩⟩⟩,⟨⟨⟨⟨WZ,⟨W0,W3⟩⟩,⟨W4,⟨W5,W7⟩⟩⟩,⟨⟨W8,⟨W9,XA⟩⟩,⟨⟨XB,XD⟩,⟨XE,ZC⟩⟩⟩⟩,⟨⟨⟨ZD,⟨ZE,ZF⟩⟩,⟨⟨XF,XG⟩,⟨XH,XI⟩⟩⟩,⟨⟨XJ,⟨XK,XL⟩⟩,⟨⟨XM,XN⟩,⟨XO,XP⟩⟩⟩⟩⟩⟩,⟨⟨⟨⟨⟨XQ,⟨XS,XT⟩⟩,⟨XU,⟨XV,XW⟩⟩⟩,⟨⟨XX,⟨XZ,X0⟩⟩,⟨⟨X1,X2⟩,⟨X3,X4⟩⟩⟩⟩,⟨⟨⟨X5,⟨X6,X7⟩⟩,⟨⟨X8,X9⟩,⟨YA,YB⟩⟩⟩,⟨⟨YC,⟨YD,YE⟩⟩,⟨⟨YF,YG⟩,⟨YH,YI⟩⟩⟩⟩⟩,⟨⟨⟨⟨YJ,⟨YK,YL⟩⟩,⟨YM,⟨YN,YO⟩⟩⟩,⟨⟨YP,⟨YQ,YR⟩⟩,⟨⟨YS,YU⟩,⟨YV,YX⟩⟩⟩⟩,⟨⟨⟨YY,⟨YZ,ZG⟩⟩,⟨⟨Y0,Y1⟩,⟨Y2,Y3⟩⟩⟩,⟨⟨Y4,⟨Y5,Y6⟩⟩,⟨⟨Y7,Y8⟩,⟨Y9,ZH⟩⟩⟩⟩⟩⟩⟩⟩
noncomputable def tab:iU:=aJo.get
theorem aDJ:tab 7=some (.code x7):=rfl
theorem SM:tab 11=some (.code x11):=rfl
theorem aHj:tab 12=some (.code x12):=rfl
theorem aHk:tab 14=some (.code x14):=rfl
theorem aHl:tab 16=some (.code x16):=rfl
theorem aHm:tab 17=some (.code x17):=rfl
theorem aHn:tab 19=some (.code x19):=rfl
theorem aHo:tab 21=some (.code x21):=rfl
theorem aHp:tab 24=some (.code x24):=rfl
theorem aHq:tab 25=some (.code x25):=rfl
theorem aHr:tab 26=some (.code x26):=rfl
theorem aHs:tab 27=some (.code x27):=rfl
theorem aHt:tab 28=some (.code x28):=rfl
theorem aHu:tab 29=some (.code x29):=rfl
theorem aHv:tab 31=some (.code x31):=rfl
theorem aHw:tab 32=some (.code x32):=rfl
theorem aHx:tab 33=some (.code x33):=rfl
theorem SN:tab 37=some (.code x37):=rfl
theorem SO:tab 38=some (.code x38):=rfl
theorem aHy:tab 39=some (.code x39):=rfl
theorem aHz:tab 40=some (.prim false (cX 1)):=rfl
theorem aHA:tab 41=some (.code x41):=rfl
theorem SP:tab 42=some (.code x42):=rfl
theorem aHB:tab 43=some (.code x43):=rfl
theorem SQ:tab 44=some (.code x44):=rfl
theorem aHC:tab 45=some (.code x45):=rfl
theorem aHD:tab 47=some (.code x47):=rfl
theorem aHE:tab 49=some (.code x49):=rfl
theorem aHF:tab 50=some (.code x50):=rfl
theorem aHG:tab 62=some (.code x62):=rfl
theorem aHH:tab 63=some (.code x63):=rfl
theorem aHI:tab 64=some (.code x64):=rfl
theorem aHJ:tab 65=some (.code x65):=rfl
theorem aHK:tab 66=some (.code x66):=rfl
theorem aHL:tab 67=some (.code x67):=rfl
theorem aHM:tab 71=some (.code x71):=rfl
theorem aHN:tab 72=some (.code x72):=rfl
theorem aHO:tab 73=some (.code x73):=rfl
theorem aHP:tab 74=some (.shp (GH 3)):=rfl
theorem aHQ:tab 75=some (.prim false (cX 3)):=rfl
theorem aHR:tab 76=some (.code x76):=rfl
theorem aHS:tab 77=some (.code x77):=rfl
theorem aHT:tab 79=some (.code x79):=rfl
theorem SS:tab 83=some (.code x83):=rfl
theorem ST:tab 84=some (.code x84):=rfl
theorem SU:tab 85=some (.code x85):=rfl
theorem aHU:tab 86=some (.code x86):=rfl
theorem aHV:tab 87=some (.code x87):=rfl
theorem aHW:tab 88=some (.code x88):=rfl
theorem aHX:tab 89=some (.shp (G0 LR)):=rfl
theorem aHY:tab 90=some (.code x90):=rfl
theorem aHZ:tab 91=some (.code x91):=rfl
theorem aH0:tab 92=some (.code x92):=rfl
theorem aH1:tab 93=some (.code x93):=rfl
theorem aH2:tab 94=some (.code x94):=rfl
theorem zI:tab 95=some (.code UT):=rfl
theorem aH3:tab 96=some (.code x96):=rfl
theorem aH4:tab 97=some (.code x97):=rfl
theorem aH5:tab 98=some (.code x98):=rfl
theorem aH6:tab 99=some (.code x99):=rfl
theorem ZI:tab 100=some (.code aE3):=rfl
theorem ZJ:tab 102=some (.code aE4):=rfl
theorem ZK:tab 103=some (.code aE5):=rfl
theorem ZL:tab 104=some (.code aE6):=rfl
theorem ZM:tab 105=some (.code aE7):=rfl
theorem ZN:tab 106=some (.code aE8):=rfl
theorem ZO:tab 107=some (.code aE9):=rfl
theorem ZP:tab 110=some (.code aFa):=rfl
theorem ZQ:tab 113=some (.code aFb):=rfl
theorem ZR:tab 114=some (.code aFc):=rfl
theorem ZS:tab 115=some (.code aFd):=rfl
theorem ZT:tab 117=some (.code aFe):=rfl
theorem ZU:tab 118=some (.code aFf):=rfl
theorem ZV:tab 119=some (.code aFg):=rfl
theorem ZW:tab 120=some (.code aFh):=rfl
theorem ZX:tab 121=some (.code aFi):=rfl
theorem ZY:tab 123=some (.code aFj):=rfl
theorem HC:tab 124=some (.code aFk):=rfl
theorem ZZ:tab 125=some (.code aFl):=rfl
theorem Z0:tab 126=some (.code aFm):=rfl
theorem Z1:tab 130=some (.code aFn):=rfl
theorem Z2:tab 131=some (.code aFo):=rfl
theorem Z3:tab 132=some (.code aFp):=rfl
theorem Z4:tab 133=some (.code aFq):=rfl
theorem NL:tab 137=some (.code aFr):=rfl
theorem Z5:tab 138=some (.code aFs):=rfl
theorem Z6:tab 139=some (.code aFt):=rfl
theorem Z7:tab 140=some (.code aFu):=rfl
theorem NM:tab 141=some (.code SD):=rfl
theorem HD:tab 142=some (.code PW):=rfl
theorem Z8:tab 143=some (.code aFv):=rfl
theorem NN:tab 146=some (.code VP):=rfl
theorem NO:tab 147=some (.code VS):=rfl
theorem Z9:tab 148=some (.code aFw):=rfl
theorem HE:tab 149=some (.code aFx):=rfl
theorem aAa:tab 150=some (.code aFy):=rfl
theorem aAb:tab 151=some (.code aFz):=rfl
theorem aAc:tab 152=some (.code aFA):=rfl
theorem aAd:tab 153=some (.code aFB):=rfl
theorem aAe:tab 154=some (.code aFC):=rfl
theorem aAf:tab 155=some (.code aFD):=rfl
theorem aAg:tab 156=some (.code aFE):=rfl
theorem NP:tab 157=some (.code aFF):=rfl
theorem aAh:tab 158=some (.shp GF):=rfl
theorem aAi:tab 159=some (.code aFG):=rfl
theorem aAj:tab 160=some (.code aFH):=rfl
theorem aAk:tab 161=some (.code aFI):=rfl
theorem aAl:tab 162=some (.code aFJ):=rfl
theorem aAm:tab 163=some (.code aFK):=rfl
theorem aAn:tab 164=some (.code aFL):=rfl
theorem aAo:tab 165=some (.code aFM):=rfl
theorem aAp:tab 166=some (.code aFN):=rfl
theorem aAq:tab 169=some (.code aFO):=rfl
theorem aAr:tab 170=some (.code aFP):=rfl
theorem aAs:tab 172=some (.code aFQ):=rfl
theorem aAt:tab 173=some (.code aFR):=rfl
theorem aAu:tab 174=some (.code aFS):=rfl
theorem aAv:tab 175=some (.code aFT):=rfl
theorem aAw:tab 177=some (.code aFU):=rfl
theorem aAx:tab 181=some (.code aFV):=rfl
theorem aAy:tab 182=some (.code aFW):=rfl
theorem aAz:tab 183=some (.code aFX):=rfl
theorem aAA:tab 184=some (.code aFY):=rfl
theorem aAB:tab 185=some (.code aFZ):=rfl
theorem aAC:tab 186=some (.code aF0):=rfl
theorem aAD:tab 188=some (.code aF1):=rfl
theorem NQ:tab 189=some (.code aF2):=rfl
theorem aAE:tab 190=some (.code aF3):=rfl
theorem aAF:tab 191=some (.code aF4):=rfl
theorem aAG:tab 192=some (.code aF5):=rfl
theorem aAH:tab 193=some (.code aF6):=rfl
theorem aAI:tab 194=some (.code aF7):=rfl
theorem NR:tab 195=some (.code SF):=rfl
theorem BJ:tab 196=some (.code MC):=rfl
theorem HF:tab 197=some (.code PX):=rfl
theorem aAJ:tab 209=some (.code aF8):=rfl
theorem HG:tab 210=some (.code aF9):=rfl
theorem aAK:tab 211=some (.code W6):=rfl
theorem aAL:tab 212=some (.code aGa):=rfl
theorem aAM:tab 213=some (.code aGb):=rfl
theorem aAN:tab 214=some (.code aGc):=rfl
theorem aAO:tab 215=some (.code aGd):=rfl
theorem NS:tab 216=some (.code XC):=rfl
theorem aAP:tab 217=some (.code aGe):=rfl
theorem aAQ:tab 218=some (.prim false (cX 3)):=rfl
theorem aAR:tab 219=some (.prim false (cX 3)):=rfl
theorem aAS:tab 220=some (.prim false (cX 5)):=rfl
theorem aAT:tab 221=some (.prim false (cX 1)):=rfl
theorem aAU:tab 223=some (.code aGf):=rfl
theorem aAV:tab 224=some (.code aGg):=rfl
theorem aAW:tab 225=some (.code aGh):=rfl
theorem aAX:tab 226=some (.code aGi):=rfl
theorem aAY:tab 227=some (.code aGj):=rfl
theorem aAZ:tab 228=some (.code aGk):=rfl
theorem aA0:tab 229=some (.code aGl):=rfl
theorem aA1:tab 230=some (.code aGm):=rfl
theorem aA2:tab 231=some (.code aGn):=rfl
theorem aA3:tab 232=some (.code aGo):=rfl
theorem aA4:tab 235=some (.code aGp):=rfl
theorem aA5:tab 236=some (.code aGq):=rfl
theorem aA6:tab 237=some (.code aGr):=rfl
theorem aA7:tab 238=some (.code aGs):=rfl
theorem aA8:tab 240=some (.code aGt):=rfl
theorem aA9:tab 241=some (.code aGu):=rfl
theorem aBa:tab 242=some (.code aGv):=rfl
theorem aBb:tab 243=some (.code aGw):=rfl
theorem aBc:tab 244=some (.code XY):=rfl
theorem aBd:tab 245=some (.code aGx):=rfl
theorem aBe:tab 246=some (.code aGy):=rfl
theorem aBf:tab 247=some (.code aGz):=rfl
theorem aBg:tab 248=some (.code aGA):=rfl
theorem aBh:tab 254=some (.code aGB):=rfl
theorem aBi:tab 255=some (.code aGC):=rfl
theorem aBj:tab 256=some (.code aGD):=rfl
theorem aBk:tab 257=some (.code aGE):=rfl
theorem aBl:tab 258=some (.code aGF):=rfl
theorem HH:tab 259=some (.code aGG):=rfl
theorem aBm:tab 260=some (.code aGH):=rfl
theorem NT:tab 261=some (.code aGI):=rfl
theorem HI:tab 262=some (.code aGJ):=rfl
theorem aBn:tab 263=some (.code aGK):=rfl
theorem aBo:tab 264=some (.code aGL):=rfl
theorem aBp:tab 265=some (.code aGM):=rfl
theorem aBq:tab 274=some (.code aGN):=rfl
theorem aBr:tab 275=some (.code aGO):=rfl
theorem aBs:tab 276=some (.code aGP):=rfl
theorem aBt:tab 277=some (.code aGQ):=rfl
theorem aBu:tab 278=some (.code aGR):=rfl
theorem aBv:tab 279=some (.code aGS):=rfl
theorem aBw:tab 280=some (.code aGT):=rfl
theorem aBx:tab 281=some (.code aGU):=rfl
theorem aBy:tab 282=some (.code aGV):=rfl
theorem aBz:tab 283=some (.code aGW):=rfl
theorem HJ:tab 285=some (.code PY):=rfl
theorem NU:tab 286=some (.code aGX):=rfl
theorem aBA:tab 287=some (.code aGY):=rfl
theorem NV:tab 288=some (.code YT):=rfl
theorem aBB:tab 289=some (.code aGZ):=rfl
theorem NW:tab 290=some (.code YW):=rfl
theorem aBC:tab 291=some (.code aG0):=rfl
theorem aBD:tab 292=some (.code aG1):=rfl
theorem aBE:tab 296=some (.prim false vA):=rfl
theorem aBF:tab 297=some (.code aG2):=rfl
theorem aBG:tab 298=some (.code aG3):=rfl
theorem aBH:tab 299=some (.code aG4):=rfl
theorem aBI:tab 300=some (.code aG5):=rfl
theorem aBJ:tab 301=some (.code aG6):=rfl
theorem NX:tab 302=some (.code aG7):=rfl
theorem aBK:tab 303=some (.code aG8):=rfl
theorem aBL:tab 304=some (.code aG9):=rfl
theorem NY:tab 305=some (.code SG):=rfl
theorem aBM:tab 307=some (.code aHa):=rfl
theorem aBN:tab 308=some (.prim false (cX 1)):=rfl
end Go.Proofs.YtogihpogmfjoiaaGreat
