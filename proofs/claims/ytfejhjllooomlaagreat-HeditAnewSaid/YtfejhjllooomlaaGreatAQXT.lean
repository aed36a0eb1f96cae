/- The table of the seat's functions. Printed by a program. -/
import Derived.Test.YtfejhjllooomlaaGreatAQX1
import Derived.Test.YtfejhjllooomlaaGreatAQX2
import Derived.Test.YtfejhjllooomlaaGreatAQIN
import Derived.Test.YtfejhjllooomlaaGreatChecked
open Option renaming some->lw
open Bool renaming false->rc
set_option maxRecDepth 100000
namespace Go.Proofs.YtfejhjllooomlaaGreat
open Go.Vm
theorem ma:Go.Proofs.Tryz.prog.follows .mixedOrders=true:=Go.Proofs.Tryz.checked.mixed
theorem ahb:xB Go.Proofs.Tryz.prog 64 (.kS rc (fV 1)):=⟨rfl,nq ma (zero:=[.int .i64 0]) (by decide+kernel)⟩
theorem ahc:xB Go.Proofs.Tryz.prog 90 (.LV (Ih 3)):=aha
theorem ahd:xB Go.Proofs.Tryz.prog 91 (.kS rc (fV 3)):=⟨rfl,nq ma (zero:=[.int .i64 0,.int .i64 0,.int .i64 0]) (by decide+kernel)⟩
theorem YK:xB Go.Proofs.Tryz.prog 170 (.kS rc (fV 3)):=⟨rfl,nq ma (zero:=[.int .i64 0,.int .i64 0,.int .i64 0]) (by decide+kernel)⟩
theorem YL:xB Go.Proofs.Tryz.prog 171 (.kS rc (fV 3)):=⟨rfl,nq ma (zero:=[.int .i64 0,.int .i64 0,.int .i64 0]) (by decide+kernel)⟩
theorem YM:xB Go.Proofs.Tryz.prog 172 (.kS rc (fV 5)):=⟨rfl,nq ma (zero:=[.int .i64 0,.int .i64 0,.int .i64 0,.int .i64 0,.int .i64 0]) (by decide+kernel)⟩
theorem YN:xB Go.Proofs.Tryz.prog 173 (.kS rc (fV 1)):=⟨rfl,nq ma (zero:=[.bool rc]) (by decide+kernel)⟩
theorem YO:xB Go.Proofs.Tryz.prog 275 (.kS rc Ab):=⟨rfl,My Go.Proofs.Tryz.func275 (by kernel_rfl) (by kernel_rfl) (by kernel_rfl) (by kernel_rfl)⟩
theorem YP:xB Go.Proofs.Tryz.prog 290 (.kS rc (fV 1)):=⟨rfl,nq ma (zero:=[.int .i64 0]) (by decide+kernel)⟩
noncomputable def aln:TT:= .node 157 (.node 87 (.node 51 (.node 29 (.node 20 (.node 13 (.node 11 (.leaf 9 (.code x9)) (.node 12 (.leaf 11 (.code x11)) (.leaf 12 (.code x12)))) (.node 16 (.node 15 (.leaf 13 (.code x13)) (.leaf 15 (.code x15))) (.node 19 (.leaf 16 (.code x16)) (.leaf 19 (.code x19))))) (.node 23 (.node 21 (.leaf 20 (.code x20)) (.node 22 (.leaf 21 (.code x21)) (.leaf 22 (.code x22)))) (.node 25 (.node 24 (.leaf 23 (.code x23)) (.leaf 24 (.code x24))) (.node 26 (.leaf 25 (.code x25)) (.leaf 26 (.code x26)))))) (.node 39 (.node 34 (.node 30 (.leaf 29 (.code x29)) (.node 32 (.leaf 30 (.code x30)) (.leaf 32 (.code x32)))) (.node 37 (.node 36 (.leaf 34 (.code x34)) (.leaf 36 (.code x36))) (.node 38 (.leaf 37 (.code x37)) (.leaf 38 (.code x38))))) (.node 45 (.node 43 (.node 40 (.leaf 39 (.code x39)) (.leaf 40 (.code x40))) (.node 44 (.leaf 43 (.code x43)) (.leaf 44 (.code x44)))) (.node 47 (.node 46 (.leaf 45 (.code x45)) (.leaf 46 (.code x46))) (.node 48 (.leaf 47 (.code x47)) (.leaf 48 (.code x48))))))) (.node 66 (.node 58 (.node 54 (.node 52 (.leaf 51 (.code x51)) (.node 53 (.leaf 52 (.code x52)) (.leaf 53 (.code x53)))) (.node 56 (.node 55 (.leaf 54 (.code x54)) (.leaf 55 (.code x55))) (.node 57 (.leaf 56 (.code x56)) (.leaf 57 (.code x57))))) (.node 61 (.node 59 (.leaf 58 (.code x58)) (.node 60 (.leaf 59 (.code x59)) (.leaf 60 (.code x60)))) (.node 63 (.node 62 (.leaf 61 (.code x61)) (.leaf 62 (.code x62))) (.node 64 (.leaf 63 (.code x63)) (.leaf 64 (.kS rc (fV 1))))))) (.node 73 (.node 69 (.node 67 (.leaf 66 (.code x66)) (.node 68 (.leaf 67 (.code x67)) (.leaf 68 (.code x68)))) (.node 71 (.node 70 (.leaf 69 (.code x69)) (.leaf 70 (.code x70))) (.node 72 (.leaf 71 (.code x71)) (.leaf 72 (.code x72))))) (.node 82 (.node 78 (.node 77 (.leaf 73 (.code x73)) (.leaf 77 (.code x77))) (.node 79 (.leaf 78 (.code x78)) (.leaf 79 (.code x79)))) (.node 85 (.node 83 (.leaf 82 (.code x82)) (.leaf 83 (.code x83))) (.node 86 (.leaf 85 (.code x85)) (.leaf 86 (.code x86)))))))) (.node 118 (.node 101 (.node 94 (.node 90 (.node 88 (.leaf 87 (.code x87)) (.node 89 (.leaf 88 (.code x88)) (.leaf 89 (.code x89)))) (.node 92 (.node 91 (.leaf 90 (.LV (Ih 3))) (.leaf 91 (.kS rc (fV 3)))) (.node 93 (.leaf 92 (.code x92)) (.leaf 93 (.code x93))))) (.node 97 (.node 95 (.leaf 94 (.code x94)) (.node 96 (.leaf 95 (.code x95)) (.leaf 96 (.code x96)))) (.node 99 (.node 98 (.leaf 97 (.code x97)) (.leaf 98 (.code x98))) (.node 100 (.leaf 99 (.code x99)) (.leaf 100 (.code aeO)))))) (.node 108 (.node 104 (.node 102 (.leaf 101 (.code aeP)) (.node 103 (.leaf 102 (.code aeQ)) (.leaf 103 (.code aeR)))) (.node 106 (.node 105 (.leaf 104 (.code aeS)) (.leaf 105 (.code aeT))) (.node 107 (.leaf 106 (.code aeU)) (.leaf 107 (.code aeV))))) (.node 112 (.node 110 (.node 109 (.leaf 108 (.code aeW)) (.leaf 109 (.code aeX))) (.node 111 (.leaf 110 (.code aeY)) (.leaf 111 (.code aeZ)))) (.node 114 (.node 113 (.leaf 112 (.code ae0)) (.leaf 113 (.code ae1))) (.node 115 (.leaf 114 (.code ae2)) (.leaf 115 (.code ae3))))))) (.node 139 (.node 125 (.node 121 (.node 119 (.leaf 118 (.code ae4)) (.node 120 (.leaf 119 (.code ae5)) (.leaf 120 (.code ae6)))) (.node 123 (.node 122 (.leaf 121 (.code ae7)) (.leaf 122 (.code ae8))) (.node 124 (.leaf 123 (.code Wi)) (.leaf 124 (.code ae9))))) (.node 131 (.node 127 (.node 126 (.leaf 125 (.code ae')) (.leaf 126 (.code afa))) (.node 128 (.leaf 127 (.code S4)) (.leaf 128 (.code afb)))) (.node 137 (.node 136 (.leaf 131 (.code afc)) (.leaf 136 (.code afd))) (.node 138 (.leaf 137 (.code afe)) (.leaf 138 (.code Qs)))))) (.node 147 (.node 142 (.node 140 (.leaf 139 (.code aff)) (.node 141 (.leaf 140 (.code Qt)) (.leaf 141 (.code Qu)))) (.node 144 (.node 143 (.leaf 142 (.code afg)) (.leaf 143 (.code afh))) (.node 146 (.leaf 144 (.code afi)) (.leaf 146 (.code afj))))) (.node 151 (.node 149 (.node 148 (.leaf 147 (.code afk)) (.leaf 148 (.code afl))) (.node 150 (.leaf 149 (.code afm)) (.leaf 150 (.code afn)))) (.node 155 (.node 154 (.leaf 151 (.code afo)) (.leaf 154 (.code afp))) (.node 156 (.leaf 155 (.code afq)) (.leaf 156 (.code afr))))))))) (.node 222 (.node 188 (.node 171 (.node 164 (.node 160 (.node 158 (.leaf 157 (.code afs)) (.node 159 (.leaf 158 (.code aft)) (.leaf 159 (.code afu)))) (.node 162 (.node 161 (.leaf 160 (.code afv)) (.leaf 161 (.code afw))) (.node 163 (.leaf 162 (.code afx)) (.leaf 163 (.code afy))))) (.node 167 (.node 165 (.leaf 164 (.code afz)) (.node 166 (.leaf 165 (.code afA)) (.leaf 166 (.code afB)))) (.node 169 (.node 168 (.leaf 167 (.code afC)) (.leaf 168 (.code afD))) (.node 170 (.leaf 169 (.code afE)) (.leaf 170 (.kS rc (fV 3))))))) (.node 180 (.node 176 (.node 172 (.leaf 171 (.kS rc (fV 3))) (.node 173 (.leaf 172 (.kS rc (fV 5))) (.leaf 173 (.kS rc (fV 1))))) (.node 178 (.node 177 (.leaf 176 (.code afF)) (.leaf 177 (.code afG))) (.node 179 (.leaf 178 (.code afH)) (.leaf 179 (.code afI))))) (.node 184 (.node 182 (.node 181 (.leaf 180 (.code afJ)) (.leaf 181 (.code afK))) (.node 183 (.leaf 182 (.code afL)) (.leaf 183 (.code afM)))) (.node 186 (.node 185 (.leaf 184 (.code afN)) (.leaf 185 (.code afO))) (.node 187 (.leaf 186 (.code afP)) (.leaf 187 (.code afQ))))))) (.node 206 (.node 197 (.node 192 (.node 189 (.leaf 188 (.code afR)) (.node 190 (.leaf 189 (.code afS)) (.leaf 190 (.code afT)))) (.node 195 (.node 194 (.leaf 192 (.code afU)) (.leaf 194 (.code afV))) (.node 196 (.leaf 195 (.code afW)) (.leaf 196 (.code afX))))) (.node 201 (.node 199 (.node 198 (.leaf 197 (.code afY)) (.leaf 198 (.code afZ))) (.node 200 (.leaf 199 (.code af0)) (.leaf 200 (.code af1)))) (.node 203 (.node 202 (.leaf 201 (.code af2)) (.leaf 202 (.code af3))) (.node 205 (.leaf 203 (.code af4)) (.leaf 205 (.code af5)))))) (.node 214 (.node 209 (.node 207 (.leaf 206 (.code af6)) (.node 208 (.leaf 207 (.code af7)) (.leaf 208 (.code af8)))) (.node 211 (.node 210 (.leaf 209 (.code af9)) (.leaf 210 (.code af'))) (.node 212 (.leaf 211 (.code aga)) (.leaf 212 (.code agb))))) (.node 218 (.node 216 (.node 215 (.leaf 214 (.code agc)) (.leaf 215 (.code age))) (.node 217 (.leaf 216 (.code agf)) (.leaf 217 (.code agh)))) (.node 220 (.node 219 (.leaf 218 (.code agi)) (.leaf 219 (.code Qv))) (.node 221 (.leaf 220 (.code agj)) (.leaf 221 (.code agk)))))))) (.node 260 (.node 236 (.node 229 (.node 225 (.node 223 (.leaf 222 (.code XH)) (.node 224 (.leaf 223 (.code agl)) (.leaf 224 (.code agm)))) (.node 227 (.node 226 (.leaf 225 (.code XL)) (.leaf 226 (.code agn))) (.node 228 (.leaf 227 (.code ago)) (.leaf 228 (.code agp))))) (.node 232 (.node 230 (.leaf 229 (.code agq)) (.node 231 (.leaf 230 (.code agr)) (.leaf 231 (.code ags)))) (.node 234 (.node 233 (.leaf 232 (.code agt)) (.leaf 233 (.code agu))) (.node 235 (.leaf 234 (.code agv)) (.leaf 235 (.code agw)))))) (.node 251 (.node 247 (.node 237 (.leaf 236 (.code agx)) (.node 238 (.leaf 237 (.code agy)) (.leaf 238 (.code agz)))) (.node 249 (.node 248 (.leaf 247 (.code agA)) (.leaf 248 (.code agB))) (.node 250 (.leaf 249 (.code agC)) (.leaf 250 (.code agD))))) (.node 255 (.node 253 (.node 252 (.leaf 251 (.code agE)) (.leaf 252 (.code agF))) (.node 254 (.leaf 253 (.code agG)) (.leaf 254 (.code agH)))) (.node 258 (.node 257 (.leaf 255 (.code agI)) (.leaf 257 (.code agJ))) (.node 259 (.leaf 258 (.code Ya)) (.leaf 259 (.code Yc))))))) (.node 275 (.node 267 (.node 263 (.node 261 (.leaf 260 (.code agK)) (.node 262 (.leaf 261 (.code agL)) (.leaf 262 (.code agM)))) (.node 265 (.node 264 (.leaf 263 (.code agN)) (.leaf 264 (.code agO))) (.node 266 (.leaf 265 (.code agP)) (.leaf 266 (.code agQ))))) (.node 271 (.node 269 (.node 268 (.leaf 267 (.code agR)) (.leaf 268 (.code S5))) (.node 270 (.leaf 269 (.code agS)) (.leaf 270 (.code agT)))) (.node 273 (.node 272 (.leaf 271 (.code agU)) (.leaf 272 (.code agV))) (.node 274 (.leaf 273 (.code agW)) (.leaf 274 (.code agX)))))) (.node 285 (.node 281 (.node 279 (.leaf 275 (.kS rc Ab)) (.node 280 (.leaf 279 (.code agY)) (.leaf 280 (.code agZ)))) (.node 283 (.node 282 (.leaf 281 (.code ag0)) (.leaf 282 (.code ag1))) (.node 284 (.leaf 283 (.code ag2)) (.leaf 284 (.code ag3))))) (.node 289 (.node 287 (.node 286 (.leaf 285 (.code ag4)) (.leaf 286 (.code YA))) (.node 288 (.leaf 287 (.code ag5)) (.leaf 288 (.code ag6)))) (.node 291 (.node 290 (.leaf 289 (.code ag7)) (.leaf 290 (.kS rc (fV 1)))) (.node 292 (.leaf 291 (.code ag8)) (.leaf 292 (.code ag9)))))))))
theorem OM:aln.All (xB Go.Proofs.Tryz.prog):=⟨⟨⟨⟨⟨⟨⟨alf,⟨adJ,adK⟩⟩,⟨⟨adL,adM⟩,⟨adN,adO⟩⟩⟩,⟨⟨adP,⟨adQ,adR⟩⟩,⟨⟨adS,adT⟩,⟨adU,adV⟩⟩⟩⟩,⟨⟨⟨adW,⟨adX,adY⟩⟩,⟨⟨adZ,ad0⟩,⟨ad1,ad2⟩⟩⟩,⟨⟨⟨ad3,ad4⟩,⟨ad5,ad6⟩⟩,⟨⟨ad7,ad8⟩,⟨ad9,aea⟩⟩⟩⟩⟩,⟨⟨⟨⟨aeb,⟨aec,aed⟩⟩,⟨⟨aee,aef⟩,⟨aeg,aeh⟩⟩⟩,⟨⟨aei,⟨aej,aek⟩⟩,⟨⟨ael,aem⟩,⟨aen,ahb⟩⟩⟩⟩,⟨⟨⟨aeo,⟨aep,aeq⟩⟩,⟨⟨aer,aes⟩,⟨aet,aeu⟩⟩⟩,⟨⟨⟨aev,aew⟩,⟨aex,aey⟩⟩,⟨⟨aez,aeA⟩,⟨aeB,aeC⟩⟩⟩⟩⟩⟩,⟨⟨⟨⟨⟨aeD,⟨aeE,aeF⟩⟩,⟨⟨ahc,ahd⟩,⟨aeG,aeH⟩⟩⟩,⟨⟨aeI,⟨aeJ,aeK⟩⟩,⟨⟨aeL,aeM⟩,⟨aeN,VY⟩⟩⟩⟩,⟨⟨⟨VZ,⟨V0,V1⟩⟩,⟨⟨V2,V3⟩,⟨V4,V5⟩⟩⟩,⟨⟨⟨V6,V7⟩,⟨V8,V9⟩⟩,⟨⟨V',Wa⟩,⟨Wb,Wc⟩⟩⟩⟩⟩,⟨⟨⟨⟨Wd,⟨We,Wf⟩⟩,⟨⟨Wg,Wh⟩,⟨Wj,Wk⟩⟩⟩,⟨⟨⟨Wl,Wm⟩,⟨Wn,Wo⟩⟩,⟨⟨Wp,Wq⟩,⟨Wr,Ws⟩⟩⟩⟩,⟨⟨⟨Wt,⟨Wu,Wv⟩⟩,⟨⟨Ww,Wx⟩,⟨Wy,Wz⟩⟩⟩,⟨⟨⟨WA,WB⟩,⟨WC,WD⟩⟩,⟨⟨WE,WG⟩,⟨WH,WI⟩⟩⟩⟩⟩⟩⟩,⟨⟨⟨⟨⟨⟨WJ,⟨WK,WL⟩⟩,⟨⟨WM,WN⟩,⟨WQ,WR⟩⟩⟩,⟨⟨WT,⟨WU,WV⟩⟩,⟨⟨WW,WX⟩,⟨WY,YK⟩⟩⟩⟩,⟨⟨⟨YL,⟨YM,YN⟩⟩,⟨⟨WZ,W0⟩,⟨W3,W4⟩⟩⟩,⟨⟨⟨W5,W6⟩,⟨W7,W8⟩⟩,⟨⟨W9,Xa⟩,⟨Xb,Xc⟩⟩⟩⟩⟩,⟨⟨⟨⟨Xd,⟨Xe,Xf⟩⟩,⟨⟨Xg,Xh⟩,⟨Xi,Xj⟩⟩⟩,⟨⟨⟨Xk,Xl⟩,⟨Xm,Xn⟩⟩,⟨⟨Xo,Xp⟩,⟨Xq,Xr⟩⟩⟩⟩,⟨⟨⟨Xs,⟨Xt,Xu⟩⟩,⟨⟨Xv,Xw⟩,⟨Xx,Xy⟩⟩⟩,⟨⟨⟨Xz,XA⟩,⟨XB,XC⟩⟩,⟨⟨XD,XE⟩,⟨XF,XG⟩⟩⟩⟩⟩⟩,⟨⟨⟨⟨⟨XI,⟨XJ,XK⟩⟩,⟨⟨XM,XN⟩,⟨XO,XP⟩⟩⟩,⟨⟨XQ,⟨XS,XT⟩⟩,⟨⟨XU,XV⟩,⟨XW,XX⟩⟩⟩⟩,⟨⟨⟨XY,⟨XZ,X0⟩⟩,⟨⟨X1,X2⟩,⟨X3,X4⟩⟩⟩,⟨⟨⟨X5,X6⟩,⟨X7,X8⟩⟩,⟨⟨X9,X'⟩,⟨Yb,Yd⟩⟩⟩⟩⟩,⟨⟨⟨⟨Ye,⟨Yf,Yg⟩⟩,⟨⟨Yh,Yi⟩,⟨Yj,Yk⟩⟩⟩,⟨⟨⟨Yl,Ym⟩,⟨Yn,Yo⟩⟩,⟨⟨Yp,Yq⟩,⟨Yr,Ys⟩⟩⟩⟩,⟨⟨⟨YO,⟨Yt,Yu⟩⟩,⟨⟨Yv,Yw⟩,⟨Yx,Yy⟩⟩⟩,⟨⟨⟨Yz,YB⟩,⟨YC,YD⟩⟩,⟨⟨YE,YP⟩,⟨YF,YG⟩⟩⟩⟩⟩⟩⟩⟩
noncomputable def bC:mY:=aln.get
theorem acw:bC 9=lw (.code x9):=rfl
theorem ahe:bC 11=lw (.code x11):=rfl
theorem ahf:bC 12=lw (.code x12):=rfl
theorem ahg:bC 13=lw (.code x13):=rfl
theorem ahh:bC 15=lw (.code x15):=rfl
theorem ahi:bC 16=lw (.code x16):=rfl
theorem ahj:bC 19=lw (.code x19):=rfl
theorem ahk:bC 20=lw (.code x20):=rfl
theorem ahl:bC 21=lw (.code x21):=rfl
theorem ahm:bC 22=lw (.code x22):=rfl
theorem ahn:bC 23=lw (.code x23):=rfl
theorem aho:bC 24=lw (.code x24):=rfl
theorem ahp:bC 25=lw (.code x25):=rfl
theorem ahq:bC 26=lw (.code x26):=rfl
theorem ahr:bC 29=lw (.code x29):=rfl
theorem ahs:bC 30=lw (.code x30):=rfl
theorem aht:bC 32=lw (.code x32):=rfl
theorem ahu:bC 34=lw (.code x34):=rfl
theorem ahv:bC 36=lw (.code x36):=rfl
theorem ahw:bC 37=lw (.code x37):=rfl
theorem ahx:bC 38=lw (.code x38):=rfl
theorem ahy:bC 39=lw (.code x39):=rfl
theorem ahz:bC 40=lw (.code x40):=rfl
theorem ahA:bC 43=lw (.code x43):=rfl
theorem ahB:bC 44=lw (.code x44):=rfl
theorem ahC:bC 45=lw (.code x45):=rfl
theorem ahD:bC 46=lw (.code x46):=rfl
theorem ahE:bC 47=lw (.code x47):=rfl
theorem ahF:bC 48=lw (.code x48):=rfl
theorem ahG:bC 51=lw (.code x51):=rfl
theorem ahH:bC 52=lw (.code x52):=rfl
theorem ahI:bC 53=lw (.code x53):=rfl
theorem ahJ:bC 54=lw (.code x54):=rfl
theorem S8:bC 55=lw (.code x55):=rfl
theorem ahK:bC 56=lw (.code x56):=rfl
theorem ahL:bC 57=lw (.code x57):=rfl
theorem ahM:bC 58=lw (.code x58):=rfl
theorem ahN:bC 59=lw (.code x59):=rfl
theorem ahO:bC 60=lw (.code x60):=rfl
theorem ahQ:bC 61=lw (.code x61):=rfl
theorem ahR:bC 62=lw (.code x62):=rfl
theorem ahS:bC 63=lw (.code x63):=rfl
theorem ahT:bC 64=lw (.kS rc (fV 1)):=rfl
theorem ahU:bC 66=lw (.code x66):=rfl
theorem ahV:bC 67=lw (.code x67):=rfl
theorem ahW:bC 68=lw (.code x68):=rfl
theorem ahX:bC 69=lw (.code x69):=rfl
theorem ahY:bC 70=lw (.code x70):=rfl
theorem ahZ:bC 71=lw (.code x71):=rfl
theorem ah0:bC 72=lw (.code x72):=rfl
theorem ah1:bC 73=lw (.code x73):=rfl
theorem S9:bC 77=lw (.code x77):=rfl
theorem Nb:bC 78=lw (.code x78):=rfl
theorem ah2:bC 79=lw (.code x79):=rfl
theorem S':bC 82=lw (.code x82):=rfl
theorem ah3:bC 83=lw (.code x83):=rfl
theorem ah4:bC 85=lw (.code x85):=rfl
theorem Ta:bC 86=lw (.code x86):=rfl
theorem ah5:bC 87=lw (.code x87):=rfl
theorem ah6:bC 88=lw (.code x88):=rfl
theorem ah7:bC 89=lw (.code x89):=rfl
theorem ah8:bC 90=lw (.LV (Ih 3)):=rfl
theorem ah9:bC 91=lw (.kS rc (fV 3)):=rfl
theorem ah':bC 92=lw (.code x92):=rfl
theorem aia:bC 93=lw (.code x93):=rfl
theorem aib:bC 94=lw (.code x94):=rfl
theorem aic:bC 95=lw (.code x95):=rfl
theorem aid:bC 96=lw (.code x96):=rfl
theorem aie:bC 97=lw (.code x97):=rfl
theorem aif:bC 98=lw (.code x98):=rfl
theorem aih:bC 99=lw (.code x99):=rfl
theorem YQ:bC 100=lw (.code aeO):=rfl
theorem YR:bC 101=lw (.code aeP):=rfl
theorem YS:bC 102=lw (.code aeQ):=rfl
theorem YT:bC 103=lw (.code aeR):=rfl
theorem YU:bC 104=lw (.code aeS):=rfl
theorem YV:bC 105=lw (.code aeT):=rfl
theorem YW:bC 106=lw (.code aeU):=rfl
theorem YX:bC 107=lw (.code aeV):=rfl
theorem YY:bC 108=lw (.code aeW):=rfl
theorem YZ:bC 109=lw (.code aeX):=rfl
theorem Y0:bC 110=lw (.code aeY):=rfl
theorem Y1:bC 111=lw (.code aeZ):=rfl
theorem Y2:bC 112=lw (.code ae0):=rfl
theorem Y3:bC 113=lw (.code ae1):=rfl
theorem Y4:bC 114=lw (.code ae2):=rfl
theorem ON:bC 115=lw (.code ae3):=rfl
theorem Y5:bC 118=lw (.code ae4):=rfl
theorem Y6:bC 119=lw (.code ae5):=rfl
theorem Y7:bC 120=lw (.code ae6):=rfl
theorem Y8:bC 121=lw (.code ae7):=rfl
theorem OO:bC 122=lw (.code ae8):=rfl
theorem OP:bC 123=lw (.code Wi):=rfl
theorem Y9:bC 124=lw (.code ae9):=rfl
theorem Y':bC 125=lw (.code ae'):=rfl
theorem Za:bC 126=lw (.code afa):=rfl
theorem OQ:bC 127=lw (.code S4):=rfl
theorem Zb:bC 128=lw (.code afb):=rfl
theorem Zc:bC 131=lw (.code afc):=rfl
theorem OR:bC 136=lw (.code afd):=rfl
theorem OS:bC 137=lw (.code afe):=rfl
theorem I4:bC 138=lw (.code Qs):=rfl
theorem Zd:bC 139=lw (.code aff):=rfl
theorem I5:bC 140=lw (.code Qt):=rfl
theorem I6:bC 141=lw (.code Qu):=rfl
theorem Ze:bC 142=lw (.code afg):=rfl
theorem Zf:bC 143=lw (.code afh):=rfl
theorem Zg:bC 144=lw (.code afi):=rfl
theorem Zh:bC 146=lw (.code afj):=rfl
theorem Zi:bC 147=lw (.code afk):=rfl
theorem Zj:bC 148=lw (.code afl):=rfl
theorem OT:bC 149=lw (.code afm):=rfl
theorem Zk:bC 150=lw (.code afn):=rfl
theorem Zl:bC 151=lw (.code afo):=rfl
theorem Zm:bC 154=lw (.code afp):=rfl
theorem Zn:bC 155=lw (.code afq):=rfl
theorem Zo:bC 156=lw (.code afr):=rfl
theorem Zp:bC 157=lw (.code afs):=rfl
theorem Zq:bC 158=lw (.code aft):=rfl
theorem Zr:bC 159=lw (.code afu):=rfl
theorem Zs:bC 160=lw (.code afv):=rfl
theorem Zt:bC 161=lw (.code afw):=rfl
theorem Zu:bC 162=lw (.code afx):=rfl
theorem Zv:bC 163=lw (.code afy):=rfl
theorem Zw:bC 164=lw (.code afz):=rfl
theorem Zx:bC 165=lw (.code afA):=rfl
theorem Zy:bC 166=lw (.code afB):=rfl
theorem Zz:bC 167=lw (.code afC):=rfl
theorem ZA:bC 168=lw (.code afD):=rfl
theorem ZB:bC 169=lw (.code afE):=rfl
theorem ZC:bC 170=lw (.kS rc (fV 3)):=rfl
theorem ZD:bC 171=lw (.kS rc (fV 3)):=rfl
theorem ZE:bC 172=lw (.kS rc (fV 5)):=rfl
theorem ZF:bC 173=lw (.kS rc (fV 1)):=rfl
theorem ZG:bC 176=lw (.code afF):=rfl
theorem OU:bC 177=lw (.code afG):=rfl
theorem ZH:bC 178=lw (.code afH):=rfl
theorem ZI:bC 179=lw (.code afI):=rfl
theorem ZJ:bC 180=lw (.code afJ):=rfl
theorem ZK:bC 181=lw (.code afK):=rfl
theorem ZL:bC 182=lw (.code afL):=rfl
theorem OV:bC 183=lw (.code afM):=rfl
theorem ZM:bC 184=lw (.code afN):=rfl
theorem ZN:bC 185=lw (.code afO):=rfl
theorem ZO:bC 186=lw (.code afP):=rfl
theorem ZP:bC 187=lw (.code afQ):=rfl
theorem ZQ:bC 188=lw (.code afR):=rfl
theorem ZR:bC 189=lw (.code afS):=rfl
theorem ZS:bC 190=lw (.code afT):=rfl
theorem ZT:bC 192=lw (.code afU):=rfl
theorem ZU:bC 194=lw (.code afV):=rfl
theorem OW:bC 195=lw (.code afW):=rfl
theorem OX:bC 196=lw (.code afX):=rfl
theorem ZV:bC 197=lw (.code afY):=rfl
theorem ZW:bC 198=lw (.code afZ):=rfl
theorem ZX:bC 199=lw (.code af0):=rfl
theorem ZY:bC 200=lw (.code af1):=rfl
theorem ZZ:bC 201=lw (.code af2):=rfl
theorem Z0:bC 202=lw (.code af3):=rfl
theorem Z1:bC 203=lw (.code af4):=rfl
theorem Z2:bC 205=lw (.code af5):=rfl
theorem Z3:bC 206=lw (.code af6):=rfl
theorem Z4:bC 207=lw (.code af7):=rfl
theorem Z5:bC 208=lw (.code af8):=rfl
theorem Z6:bC 209=lw (.code af9):=rfl
theorem Z7:bC 210=lw (.code af'):=rfl
theorem Z8:bC 211=lw (.code aga):=rfl
theorem Z9:bC 212=lw (.code agb):=rfl
theorem Z':bC 214=lw (.code agc):=rfl
theorem aaa:bC 215=lw (.code age):=rfl
theorem aab:bC 216=lw (.code agf):=rfl
theorem aac:bC 217=lw (.code agh):=rfl
theorem aad:bC 218=lw (.code agi):=rfl
theorem I7:bC 219=lw (.code Qv):=rfl
theorem OY:bC 220=lw (.code agj):=rfl
theorem aae:bC 221=lw (.code agk):=rfl
theorem OZ:bC 222=lw (.code XH):=rfl
theorem aaf:bC 223=lw (.code agl):=rfl
theorem aag:bC 224=lw (.code agm):=rfl
theorem O0:bC 225=lw (.code XL):=rfl
theorem aah:bC 226=lw (.code agn):=rfl
theorem aai:bC 227=lw (.code ago):=rfl
theorem anO:bC 228=lw (.code agp):=rfl
theorem anP:bC 229=lw (.code agq):=rfl
theorem anQ:bC 230=lw (.code agr):=rfl
theorem anR:bC 231=lw (.code ags):=rfl
theorem anS:bC 232=lw (.code agt):=rfl
theorem anT:bC 233=lw (.code agu):=rfl
theorem anU:bC 234=lw (.code agv):=rfl
theorem aaj:bC 235=lw (.code agw):=rfl
theorem aak:bC 236=lw (.code agx):=rfl
theorem aal:bC 237=lw (.code agy):=rfl
theorem aam:bC 238=lw (.code agz):=rfl
theorem aan:bC 247=lw (.code agA):=rfl
theorem aao:bC 248=lw (.code agB):=rfl
theorem aap:bC 249=lw (.code agC):=rfl
theorem aaq:bC 250=lw (.code agD):=rfl
theorem aar:bC 251=lw (.code agE):=rfl
theorem aas:bC 252=lw (.code agF):=rfl
theorem aat:bC 253=lw (.code agG):=rfl
theorem aau:bC 254=lw (.code agH):=rfl
theorem aav:bC 255=lw (.code agI):=rfl
theorem aaw:bC 257=lw (.code agJ):=rfl
theorem aax:bC 258=lw (.code Ya):=rfl
theorem aay:bC 259=lw (.code Yc):=rfl
theorem aaz:bC 260=lw (.code agK):=rfl
theorem aaA:bC 261=lw (.code agL):=rfl
theorem aaB:bC 262=lw (.code agM):=rfl
theorem aaC:bC 263=lw (.code agN):=rfl
theorem aaD:bC 264=lw (.code agO):=rfl
theorem O1:bC 265=lw (.code agP):=rfl
theorem aaE:bC 266=lw (.code agQ):=rfl
theorem aaF:bC 267=lw (.code agR):=rfl
theorem O2:bC 268=lw (.code S5):=rfl
theorem aaG:bC 269=lw (.code agS):=rfl
theorem anV:bC 270=lw (.code agT):=rfl
theorem anW:bC 271=lw (.code agU):=rfl
theorem anX:bC 272=lw (.code agV):=rfl
theorem anY:bC 273=lw (.code agW):=rfl
theorem anZ:bC 274=lw (.code agX):=rfl
theorem aaH:bC 275=lw (.kS rc Ab):=rfl
theorem I8:bC 279=lw (.code agY):=rfl
theorem aaI:bC 280=lw (.code agZ):=rfl
theorem O3:bC 281=lw (.code ag0):=rfl
theorem I9:bC 282=lw (.code ag1):=rfl
theorem aaJ:bC 283=lw (.code ag2):=rfl
theorem aaK:bC 284=lw (.code ag3):=rfl
theorem aaL:bC 285=lw (.code ag4):=rfl
theorem aaM:bC 286=lw (.code YA):=rfl
theorem aaN:bC 287=lw (.code ag5):=rfl
theorem aaO:bC 288=lw (.code ag6):=rfl
theorem aaP:bC 289=lw (.code ag7):=rfl
theorem aaQ:bC 290=lw (.kS rc (fV 1)):=rfl
theorem aaR:bC 291=lw (.code ag8):=rfl
theorem an0:bC 292=lw (.code ag9):=rfl
end Go.Proofs.YtfejhjllooomlaaGreat
