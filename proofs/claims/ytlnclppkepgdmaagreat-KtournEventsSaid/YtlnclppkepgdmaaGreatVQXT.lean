/- The table of the seat's functions. Printed by a program. -/
import Derived.Test.YtlnclppkepgdmaaGreatVQX1
import Derived.Test.YtlnclppkepgdmaaGreatVQX2
import Derived.Test.YtlnclppkepgdmaaGreatVQIO
import Derived.Test.YtlnclppkepgdmaaGreatChecked
open Option renaming some->pp
open Bool renaming false->rc
set_option maxRecDepth 100000
namespace Go.Proofs.YtlnclppkepgdmaaGreat
open Go.Vm
theorem jj:Go.Proofs.Tryz.prog.follows .mixedOrders=true:=Go.Proofs.Tryz.checked.mixed
theorem ahv:xD Go.Proofs.Tryz.prog 67 (.jg rc (fo 1)):=⟨rfl,mZ jj (zero:=[.int .i64 0]) (by decide+kernel)⟩
theorem ahw:xD Go.Proofs.Tryz.prog 70 (.MT (JB NG)):=ahu
theorem Zn:xD Go.Proofs.Tryz.prog 124 (.jg rc (fo 3)):=⟨rfl,mZ jj (zero:=[.int .i64 0,.int .i64 0,.int .i64 0]) (by decide+kernel)⟩
theorem Zo:xD Go.Proofs.Tryz.prog 181 (.jg rc (fo 3)):=⟨rfl,mZ jj (zero:=[.int .i64 0,.int .i64 0,.int .i64 0]) (by decide+kernel)⟩
theorem Zp:xD Go.Proofs.Tryz.prog 182 (.jg rc (fo 3)):=⟨rfl,mZ jj (zero:=[.int .i64 0,.int .i64 0,.int .i64 0]) (by decide+kernel)⟩
theorem Zq:xD Go.Proofs.Tryz.prog 183 (.jg rc (fo 5)):=⟨rfl,mZ jj (zero:=[.int .i64 0,.int .i64 0,.int .i64 0,.int .i64 0,.int .i64 0]) (by decide+kernel)⟩
theorem Zr:xD Go.Proofs.Tryz.prog 184 (.jg rc (fo 1)):=⟨rfl,mZ jj (zero:=[.bool rc]) (by decide+kernel)⟩
theorem Zs:xD Go.Proofs.Tryz.prog 300 (.jg rc Av):=⟨rfl,Nq Go.Proofs.Tryz.func300 (by kernel_rfl) (by kernel_rfl) (by kernel_rfl) (by kernel_rfl)⟩
theorem Zt:xD Go.Proofs.Tryz.prog 315 (.jg rc (fo 1)):=⟨rfl,mZ jj (zero:=[.int .i64 0]) (by decide+kernel)⟩
noncomputable def alk:TT:= .node 159 (.node 80 (.node 49 (.node 28 (.node 16 (.node 12 (.node 9 (.leaf 8 (.code x8)) (.node 10 (.leaf 9 (.code x9)) (.leaf 10 (.code x10)))) (.node 14 (.leaf 12 (.code x12)) (.node 15 (.leaf 14 (.code x14)) (.leaf 15 (.code x15))))) (.node 23 (.node 17 (.leaf 16 (.code x16)) (.node 21 (.leaf 17 (.code x17)) (.leaf 21 (.code x21)))) (.node 25 (.node 24 (.leaf 23 (.code x23)) (.leaf 24 (.code x24))) (.node 26 (.leaf 25 (.code x25)) (.leaf 26 (.code x26)))))) (.node 40 (.node 31 (.node 29 (.leaf 28 (.code x28)) (.node 30 (.leaf 29 (.code x29)) (.leaf 30 (.code x30)))) (.node 35 (.leaf 31 (.code x31)) (.node 36 (.leaf 35 (.code x35)) (.leaf 36 (.code x36))))) (.node 43 (.node 41 (.leaf 40 (.code x40)) (.node 42 (.leaf 41 (.code x41)) (.leaf 42 (.code x42)))) (.node 45 (.node 44 (.leaf 43 (.code x43)) (.leaf 44 (.code x44))) (.node 46 (.leaf 45 (.code x45)) (.leaf 46 (.code x46))))))) (.node 66 (.node 57 (.node 52 (.node 50 (.leaf 49 (.code x49)) (.node 51 (.leaf 50 (.code x50)) (.leaf 51 (.code x51)))) (.node 53 (.leaf 52 (.code x52)) (.node 54 (.leaf 53 (.code x53)) (.leaf 54 (.code x54))))) (.node 60 (.node 58 (.leaf 57 (.code x57)) (.node 59 (.leaf 58 (.code x58)) (.leaf 59 (.code x59)))) (.node 63 (.node 62 (.leaf 60 (.code x60)) (.leaf 62 (.code x62))) (.node 65 (.leaf 63 (.code x63)) (.leaf 65 (.code x65)))))) (.node 73 (.node 69 (.node 67 (.leaf 66 (.code x66)) (.node 68 (.leaf 67 (.jg rc (fo 1))) (.leaf 68 (.code x68)))) (.node 71 (.node 70 (.leaf 69 (.code x69)) (.leaf 70 (.MT (JB NG)))) (.node 72 (.leaf 71 (.code x71)) (.leaf 72 (.code x72))))) (.node 76 (.node 74 (.leaf 73 (.code x73)) (.node 75 (.leaf 74 (.code x74)) (.leaf 75 (.code x75)))) (.node 78 (.node 77 (.leaf 76 (.code x76)) (.leaf 77 (.code x77))) (.node 79 (.leaf 78 (.code x78)) (.leaf 79 (.code x79)))))))) (.node 119 (.node 102 (.node 94 (.node 86 (.node 81 (.leaf 80 (.code x80)) (.node 85 (.leaf 81 (.code x81)) (.leaf 85 (.code x85)))) (.node 87 (.leaf 86 (.code x86)) (.node 88 (.leaf 87 (.code x87)) (.leaf 88 (.code x88))))) (.node 97 (.node 95 (.leaf 94 (.code x94)) (.node 96 (.leaf 95 (.code x95)) (.leaf 96 (.code x96)))) (.node 99 (.node 98 (.leaf 97 (.code x97)) (.leaf 98 (.code x98))) (.node 101 (.leaf 99 (.code x99)) (.leaf 101 (.code afs)))))) (.node 110 (.node 107 (.node 105 (.leaf 102 (.code aft)) (.node 106 (.leaf 105 (.code afu)) (.leaf 106 (.code afv)))) (.node 108 (.leaf 107 (.code afw)) (.node 109 (.leaf 108 (.code afx)) (.leaf 109 (.code afy))))) (.node 113 (.node 111 (.leaf 110 (.code afz)) (.node 112 (.leaf 111 (.code afA)) (.leaf 112 (.code afB)))) (.node 115 (.node 114 (.leaf 113 (.code afC)) (.leaf 114 (.code afD))) (.node 116 (.leaf 115 (.code afE)) (.leaf 116 (.code Xe))))))) (.node 133 (.node 125 (.node 122 (.node 120 (.leaf 119 (.code afF)) (.node 121 (.leaf 120 (.code afG)) (.leaf 121 (.code afH)))) (.node 123 (.leaf 122 (.code afI)) (.node 124 (.leaf 123 (.code afJ)) (.leaf 124 (.jg rc (fo 3)))))) (.node 129 (.node 126 (.leaf 125 (.code afK)) (.node 128 (.leaf 126 (.code afL)) (.leaf 128 (.code afM)))) (.node 131 (.node 130 (.leaf 129 (.code afN)) (.leaf 130 (.code afO))) (.node 132 (.leaf 131 (.code Ub)) (.leaf 132 (.code Rs)))))) (.node 142 (.node 138 (.node 134 (.leaf 133 (.code afP)) (.node 137 (.leaf 134 (.code LV)) (.leaf 137 (.code Xu)))) (.node 140 (.node 139 (.leaf 138 (.code afQ)) (.leaf 139 (.code afR))) (.node 141 (.leaf 140 (.code afS)) (.leaf 141 (.code afT))))) (.node 145 (.node 143 (.leaf 142 (.code afU)) (.node 144 (.leaf 143 (.code afV)) (.leaf 144 (.code afW)))) (.node 147 (.node 146 (.leaf 145 (.code afX)) (.leaf 146 (.code afY))) (.node 152 (.leaf 147 (.code afZ)) (.leaf 152 (.code af0))))))))) (.node 234 (.node 189 (.node 175 (.node 167 (.node 163 (.node 160 (.leaf 159 (.code af1)) (.node 161 (.leaf 160 (.code af2)) (.leaf 161 (.code af3)))) (.node 165 (.leaf 163 (.code af4)) (.node 166 (.leaf 165 (.code af5)) (.leaf 166 (.code af6))))) (.node 171 (.node 168 (.leaf 167 (.code af7)) (.node 170 (.leaf 168 (.code af8)) (.leaf 170 (.code af9)))) (.node 173 (.node 172 (.leaf 171 (.code af')) (.leaf 172 (.code aga))) (.node 174 (.leaf 173 (.code agb)) (.leaf 174 (.code agc)))))) (.node 181 (.node 178 (.node 176 (.leaf 175 (.code age)) (.node 177 (.leaf 176 (.code agf)) (.leaf 177 (.code agh)))) (.node 179 (.leaf 178 (.code agi)) (.node 180 (.leaf 179 (.code agj)) (.leaf 180 (.code agk))))) (.node 184 (.node 182 (.leaf 181 (.jg rc (fo 3))) (.node 183 (.leaf 182 (.jg rc (fo 3))) (.leaf 183 (.jg rc (fo 5))))) (.node 186 (.node 185 (.leaf 184 (.jg rc (fo 1))) (.leaf 185 (.code agl))) (.node 187 (.leaf 186 (.code agm)) (.leaf 187 (.code agn))))))) (.node 213 (.node 195 (.node 192 (.node 190 (.leaf 189 (.code ago)) (.node 191 (.leaf 190 (.code agp)) (.leaf 191 (.code agq)))) (.node 193 (.leaf 192 (.code agr)) (.node 194 (.leaf 193 (.code ags)) (.leaf 194 (.code agt))))) (.node 198 (.node 196 (.leaf 195 (.code agu)) (.node 197 (.leaf 196 (.code agv)) (.leaf 197 (.code agw)))) (.node 200 (.node 199 (.leaf 198 (.code agx)) (.leaf 199 (.code Uc))) (.node 201 (.leaf 200 (.code N8)) (.leaf 201 (.code Rt)))))) (.node 225 (.node 216 (.node 214 (.leaf 213 (.code agy)) (.node 215 (.leaf 214 (.code agz)) (.leaf 215 (.code agA)))) (.node 218 (.node 217 (.leaf 216 (.code agB)) (.leaf 217 (.code agC))) (.node 219 (.leaf 218 (.code agD)) (.leaf 219 (.code agE))))) (.node 229 (.node 226 (.leaf 225 (.code agF)) (.node 227 (.leaf 226 (.code agG)) (.leaf 227 (.code agH)))) (.node 232 (.node 231 (.leaf 229 (.code agI)) (.leaf 231 (.code agJ))) (.node 233 (.leaf 232 (.code agK)) (.leaf 233 (.code agL)))))))) (.node 282 (.node 247 (.node 240 (.node 237 (.node 235 (.leaf 234 (.code agM)) (.node 236 (.leaf 235 (.code agN)) (.leaf 236 (.code agO)))) (.node 238 (.leaf 237 (.code agP)) (.node 239 (.leaf 238 (.code agQ)) (.leaf 239 (.code agR))))) (.node 243 (.node 241 (.leaf 240 (.code agS)) (.node 242 (.leaf 241 (.code agT)) (.leaf 242 (.code agU)))) (.node 245 (.node 244 (.leaf 243 (.code agV)) (.leaf 244 (.code YE))) (.node 246 (.leaf 245 (.code agW)) (.leaf 246 (.code YH)))))) (.node 253 (.node 250 (.node 248 (.leaf 247 (.code agX)) (.node 249 (.leaf 248 (.code agY)) (.leaf 249 (.code agZ)))) (.node 251 (.leaf 250 (.code ag0)) (.node 252 (.leaf 251 (.code YN)) (.leaf 252 (.code ag1))))) (.node 261 (.node 254 (.leaf 253 (.code ag2)) (.node 260 (.leaf 254 (.code ag3)) (.leaf 260 (.code ag4)))) (.node 272 (.node 271 (.leaf 261 (.code ag5)) (.leaf 271 (.code ag6))) (.node 273 (.leaf 272 (.code ag7)) (.leaf 273 (.code ag8))))))) (.node 296 (.node 288 (.node 285 (.node 283 (.leaf 282 (.code ag9)) (.node 284 (.leaf 283 (.code ag')) (.leaf 284 (.code aha)))) (.node 286 (.leaf 285 (.code ahb)) (.node 287 (.leaf 286 (.code Ru)) (.leaf 287 (.code ahc))))) (.node 291 (.node 289 (.leaf 288 (.code ahd)) (.node 290 (.leaf 289 (.code ahe)) (.leaf 290 (.code ahf)))) (.node 293 (.node 292 (.leaf 291 (.code ahg)) (.leaf 292 (.code ahh))) (.node 294 (.leaf 293 (.code ahi)) (.leaf 294 (.code ahj)))))) (.node 309 (.node 305 (.node 300 (.leaf 296 (.code ahk)) (.node 304 (.leaf 300 (.jg rc Av)) (.leaf 304 (.code Ud)))) (.node 307 (.node 306 (.leaf 305 (.code ahl)) (.leaf 306 (.code ahm))) (.node 308 (.leaf 307 (.code ahn)) (.leaf 308 (.code aho))))) (.node 312 (.node 310 (.leaf 309 (.code Zf)) (.node 311 (.leaf 310 (.code ahp)) (.leaf 311 (.code Zi)))) (.node 316 (.node 315 (.leaf 312 (.code ahq)) (.leaf 315 (.jg rc (fo 1)))) (.node 317 (.leaf 316 (.code ahr)) (.leaf 317 (.code ahs)))))))))
theorem wL:alk.All (xD Go.Proofs.Tryz.prog):=⟨⟨⟨⟨⟨⟨⟨ali,⟨alj,aeu⟩⟩,⟨aev,⟨aew,aex⟩⟩⟩,⟨⟨aey,⟨aez,aeA⟩⟩,⟨⟨aeB,aeC⟩,⟨aeD,aeE⟩⟩⟩⟩,⟨⟨⟨aeF,⟨aeG,aeH⟩⟩,⟨aeI,⟨aeJ,aeK⟩⟩⟩,⟨⟨aeL,⟨aeM,aeN⟩⟩,⟨⟨aeO,aeP⟩,⟨aeQ,aeR⟩⟩⟩⟩⟩,⟨⟨⟨⟨aeS,⟨aeT,aeU⟩⟩,⟨aeV,⟨aeW,aeX⟩⟩⟩,⟨⟨aeY,⟨aeZ,ae0⟩⟩,⟨⟨ae1,ae2⟩,⟨ae3,ae4⟩⟩⟩⟩,⟨⟨⟨ae5,⟨ahv,ae6⟩⟩,⟨⟨ae7,ahw⟩,⟨ae8,ae9⟩⟩⟩,⟨⟨ae',⟨afa,afb⟩⟩,⟨⟨afc,afd⟩,⟨afe,aff⟩⟩⟩⟩⟩⟩,⟨⟨⟨⟨⟨afg,⟨afh,afi⟩⟩,⟨afj,⟨afk,afl⟩⟩⟩,⟨⟨afm,⟨afn,afo⟩⟩,⟨⟨afp,afq⟩,⟨afr,WX⟩⟩⟩⟩,⟨⟨⟨WY,⟨WZ,W4⟩⟩,⟨W5,⟨W6,W7⟩⟩⟩,⟨⟨W8,⟨W9,Xa⟩⟩,⟨⟨Xb,Xc⟩,⟨Xd,Xf⟩⟩⟩⟩⟩,⟨⟨⟨⟨Xg,⟨Xh,Xi⟩⟩,⟨Xj,⟨Xk,Zn⟩⟩⟩,⟨⟨Xl,⟨Xm,Xn⟩⟩,⟨⟨Xo,Xp⟩,⟨Xq,Xr⟩⟩⟩⟩,⟨⟨⟨Xs,⟨Xt,Xv⟩⟩,⟨⟨Xw,Xx⟩,⟨Xy,Xz⟩⟩⟩,⟨⟨XA,⟨XB,XC⟩⟩,⟨⟨XD,XE⟩,⟨XF,XG⟩⟩⟩⟩⟩⟩⟩,⟨⟨⟨⟨⟨⟨XH,⟨XI,XJ⟩⟩,⟨XK,⟨XL,XM⟩⟩⟩,⟨⟨XN,⟨XO,XP⟩⟩,⟨⟨XQ,XS⟩,⟨XT,XU⟩⟩⟩⟩,⟨⟨⟨XV,⟨XW,XX⟩⟩,⟨XY,⟨XZ,X0⟩⟩⟩,⟨⟨Zo,⟨Zp,Zq⟩⟩,⟨⟨Zr,X1⟩,⟨X2,X3⟩⟩⟩⟩⟩,⟨⟨⟨⟨X4,⟨X5,X6⟩⟩,⟨X7,⟨X8,X9⟩⟩⟩,⟨⟨X',⟨Ya,Yb⟩⟩,⟨⟨Yc,Yd⟩,⟨Ye,Yf⟩⟩⟩⟩,⟨⟨⟨Yg,⟨Yh,Yi⟩⟩,⟨⟨Yj,Yk⟩,⟨Yl,Ym⟩⟩⟩,⟨⟨Yn,⟨Yo,Yp⟩⟩,⟨⟨Yq,Yr⟩,⟨Ys,Yt⟩⟩⟩⟩⟩⟩,⟨⟨⟨⟨⟨Yu,⟨Yv,Yw⟩⟩,⟨Yx,⟨Yy,Yz⟩⟩⟩,⟨⟨YA,⟨YB,YC⟩⟩,⟨⟨YD,YF⟩,⟨YG,YI⟩⟩⟩⟩,⟨⟨⟨YJ,⟨YK,YL⟩⟩,⟨YM,⟨YO,YP⟩⟩⟩,⟨⟨YQ,⟨YR,YS⟩⟩,⟨⟨YT,YU⟩,⟨YV,YW⟩⟩⟩⟩⟩,⟨⟨⟨⟨YX,⟨YY,YZ⟩⟩,⟨Y0,⟨Y1,Y2⟩⟩⟩,⟨⟨Y3,⟨Y4,Y5⟩⟩,⟨⟨Y6,Y7⟩,⟨Y8,Y9⟩⟩⟩⟩,⟨⟨⟨Y',⟨Zs,Za⟩⟩,⟨⟨Zb,Zc⟩,⟨Zd,Ze⟩⟩⟩,⟨⟨Zg,⟨Zh,Zj⟩⟩,⟨⟨Zk,Zt⟩,⟨Zl,Zm⟩⟩⟩⟩⟩⟩⟩⟩
noncomputable def bB:kS:=alk.get
theorem alm:bB 8=pp (.code x8):=rfl
theorem aln:bB 9=pp (.code x9):=rfl
theorem ahx:bB 10=pp (.code x10):=rfl
theorem ahy:bB 12=pp (.code x12):=rfl
theorem ahz:bB 14=pp (.code x14):=rfl
theorem ahA:bB 15=pp (.code x15):=rfl
theorem ahB:bB 16=pp (.code x16):=rfl
theorem ahC:bB 17=pp (.code x17):=rfl
theorem ahD:bB 21=pp (.code x21):=rfl
theorem ahE:bB 23=pp (.code x23):=rfl
theorem ahF:bB 24=pp (.code x24):=rfl
theorem ahG:bB 25=pp (.code x25):=rfl
theorem ahH:bB 26=pp (.code x26):=rfl
theorem ahI:bB 28=pp (.code x28):=rfl
theorem ahJ:bB 29=pp (.code x29):=rfl
theorem ahK:bB 30=pp (.code x30):=rfl
theorem ahL:bB 31=pp (.code x31):=rfl
theorem ahM:bB 35=pp (.code x35):=rfl
theorem ahN:bB 36=pp (.code x36):=rfl
theorem ahO:bB 40=pp (.code x40):=rfl
theorem ahP:bB 41=pp (.code x41):=rfl
theorem ahQ:bB 42=pp (.code x42):=rfl
theorem ahR:bB 43=pp (.code x43):=rfl
theorem ahS:bB 44=pp (.code x44):=rfl
theorem ahT:bB 45=pp (.code x45):=rfl
theorem ahU:bB 46=pp (.code x46):=rfl
theorem ahV:bB 49=pp (.code x49):=rfl
theorem ahW:bB 50=pp (.code x50):=rfl
theorem ahX:bB 51=pp (.code x51):=rfl
theorem ahY:bB 52=pp (.code x52):=rfl
theorem ahZ:bB 53=pp (.code x53):=rfl
theorem ah0:bB 54=pp (.code x54):=rfl
theorem ah1:bB 57=pp (.code x57):=rfl
theorem ah2:bB 58=pp (.code x58):=rfl
theorem ah3:bB 59=pp (.code x59):=rfl
theorem ah4:bB 60=pp (.code x60):=rfl
theorem ah5:bB 62=pp (.code x62):=rfl
theorem ah6:bB 63=pp (.code x63):=rfl
theorem ah7:bB 65=pp (.code x65):=rfl
theorem ah8:bB 66=pp (.code x66):=rfl
theorem ah9:bB 67=pp (.jg rc (fo 1)):=rfl
theorem ah':bB 68=pp (.code x68):=rfl
theorem aia:bB 69=pp (.code x69):=rfl
theorem aib:bB 70=pp (.MT (JB NG)):=rfl
theorem aic:bB 71=pp (.code x71):=rfl
theorem aid:bB 72=pp (.code x72):=rfl
theorem aie:bB 73=pp (.code x73):=rfl
theorem aif:bB 74=pp (.code x74):=rfl
theorem aih:bB 75=pp (.code x75):=rfl
theorem aii:bB 76=pp (.code x76):=rfl
theorem aij:bB 77=pp (.code x77):=rfl
theorem aik:bB 78=pp (.code x78):=rfl
theorem ail:bB 79=pp (.code x79):=rfl
theorem aim:bB 80=pp (.code x80):=rfl
theorem ain:bB 81=pp (.code x81):=rfl
theorem aio:bB 85=pp (.code x85):=rfl
theorem aip:bB 86=pp (.code x86):=rfl
theorem aiq:bB 87=pp (.code x87):=rfl
theorem air:bB 88=pp (.code x88):=rfl
theorem ais:bB 94=pp (.code x94):=rfl
theorem ait:bB 95=pp (.code x95):=rfl
theorem aiu:bB 96=pp (.code x96):=rfl
theorem aiv:bB 97=pp (.code x97):=rfl
theorem aiw:bB 98=pp (.code x98):=rfl
theorem aix:bB 99=pp (.code x99):=rfl
theorem Zu:bB 101=pp (.code afs):=rfl
theorem Zv:bB 102=pp (.code aft):=rfl
theorem Zw:bB 105=pp (.code afu):=rfl
theorem Zx:bB 106=pp (.code afv):=rfl
theorem Zy:bB 107=pp (.code afw):=rfl
theorem Zz:bB 108=pp (.code afx):=rfl
theorem ZA:bB 109=pp (.code afy):=rfl
theorem ZB:bB 110=pp (.code afz):=rfl
theorem ZC:bB 111=pp (.code afA):=rfl
theorem ZD:bB 112=pp (.code afB):=rfl
theorem ZE:bB 113=pp (.code afC):=rfl
theorem PH:bB 114=pp (.code afD):=rfl
theorem ZF:bB 115=pp (.code afE):=rfl
theorem PI:bB 116=pp (.code Xe):=rfl
theorem ZG:bB 119=pp (.code afF):=rfl
theorem ZH:bB 120=pp (.code afG):=rfl
theorem ZI:bB 121=pp (.code afH):=rfl
theorem ZJ:bB 122=pp (.code afI):=rfl
theorem ZK:bB 123=pp (.code afJ):=rfl
theorem ZL:bB 124=pp (.jg rc (fo 3)):=rfl
theorem PJ:bB 125=pp (.code afK):=rfl
theorem ZM:bB 126=pp (.code afL):=rfl
theorem ZN:bB 128=pp (.code afM):=rfl
theorem ZO:bB 129=pp (.code afN):=rfl
theorem ZP:bB 130=pp (.code afO):=rfl
theorem PK:bB 131=pp (.code Ub):=rfl
theorem JT:bB 132=pp (.code Rs):=rfl
theorem ZQ:bB 133=pp (.code afP):=rfl
theorem Ca:bB 134=pp (.code LV):=rfl
theorem PL:bB 137=pp (.code Xu):=rfl
theorem ZR:bB 138=pp (.code afQ):=rfl
theorem JU:bB 139=pp (.code afR):=rfl
theorem ZS:bB 140=pp (.code afS):=rfl
theorem ZT:bB 141=pp (.code afT):=rfl
theorem ZU:bB 142=pp (.code afU):=rfl
theorem ZV:bB 143=pp (.code afV):=rfl
theorem ZW:bB 144=pp (.code afW):=rfl
theorem ZX:bB 145=pp (.code afX):=rfl
theorem ZY:bB 146=pp (.code afY):=rfl
theorem ZZ:bB 147=pp (.code afZ):=rfl
theorem Z0:bB 152=pp (.code af0):=rfl
theorem Z1:bB 159=pp (.code af1):=rfl
theorem Z2:bB 160=pp (.code af2):=rfl
theorem Z3:bB 161=pp (.code af3):=rfl
theorem PM:bB 163=pp (.code af4):=rfl
theorem PN:bB 165=pp (.code af5):=rfl
theorem Z4:bB 166=pp (.code af6):=rfl
theorem Z5:bB 167=pp (.code af7):=rfl
theorem Z6:bB 168=pp (.code af8):=rfl
theorem Z7:bB 170=pp (.code af9):=rfl
theorem Z8:bB 171=pp (.code af'):=rfl
theorem Z9:bB 172=pp (.code aga):=rfl
theorem Z':bB 173=pp (.code agb):=rfl
theorem aaa:bB 174=pp (.code agc):=rfl
theorem aab:bB 175=pp (.code age):=rfl
theorem aac:bB 176=pp (.code agf):=rfl
theorem aad:bB 177=pp (.code agh):=rfl
theorem aae:bB 178=pp (.code agi):=rfl
theorem aaf:bB 179=pp (.code agj):=rfl
theorem PO:bB 180=pp (.code agk):=rfl
theorem aag:bB 181=pp (.jg rc (fo 3)):=rfl
theorem aah:bB 182=pp (.jg rc (fo 3)):=rfl
theorem aai:bB 183=pp (.jg rc (fo 5)):=rfl
theorem aaj:bB 184=pp (.jg rc (fo 1)):=rfl
theorem aak:bB 185=pp (.code agl):=rfl
theorem aal:bB 186=pp (.code agm):=rfl
theorem aam:bB 187=pp (.code agn):=rfl
theorem aan:bB 189=pp (.code ago):=rfl
theorem aao:bB 190=pp (.code agp):=rfl
theorem aap:bB 191=pp (.code agq):=rfl
theorem aaq:bB 192=pp (.code agr):=rfl
theorem aar:bB 193=pp (.code ags):=rfl
theorem aas:bB 194=pp (.code agt):=rfl
theorem aat:bB 195=pp (.code agu):=rfl
theorem aau:bB 196=pp (.code agv):=rfl
theorem aav:bB 197=pp (.code agw):=rfl
theorem aaw:bB 198=pp (.code agx):=rfl
theorem PQ:bB 199=pp (.code Uc):=rfl
theorem ET:bB 200=pp (.code N8):=rfl
theorem JV:bB 201=pp (.code Rt):=rfl
theorem aax:bB 213=pp (.code agy):=rfl
theorem JW:bB 214=pp (.code agz):=rfl
theorem aay:bB 215=pp (.code agA):=rfl
theorem aaz:bB 216=pp (.code agB):=rfl
theorem aaA:bB 217=pp (.code agC):=rfl
theorem aaB:bB 218=pp (.code agD):=rfl
theorem aaC:bB 219=pp (.code agE):=rfl
theorem aaD:bB 225=pp (.code agF):=rfl
theorem aaE:bB 226=pp (.code agG):=rfl
theorem aaF:bB 227=pp (.code agH):=rfl
theorem aaG:bB 229=pp (.code agI):=rfl
theorem aaH:bB 231=pp (.code agJ):=rfl
theorem aaI:bB 232=pp (.code agK):=rfl
theorem aaJ:bB 233=pp (.code agL):=rfl
theorem aaK:bB 234=pp (.code agM):=rfl
theorem aaL:bB 235=pp (.code agN):=rfl
theorem aaM:bB 236=pp (.code agO):=rfl
theorem aaN:bB 237=pp (.code agP):=rfl
theorem aaO:bB 238=pp (.code agQ):=rfl
theorem aaP:bB 239=pp (.code agR):=rfl
theorem aaQ:bB 240=pp (.code agS):=rfl
theorem aaR:bB 241=pp (.code agT):=rfl
theorem aaS:bB 242=pp (.code agU):=rfl
theorem aaT:bB 243=pp (.code agV):=rfl
theorem PR:bB 244=pp (.code YE):=rfl
theorem aaU:bB 245=pp (.code agW):=rfl
theorem aaV:bB 246=pp (.code YH):=rfl
theorem aaW:bB 247=pp (.code agX):=rfl
theorem aaX:bB 248=pp (.code agY):=rfl
theorem aaY:bB 249=pp (.code agZ):=rfl
theorem aaZ:bB 250=pp (.code ag0):=rfl
theorem aa0:bB 251=pp (.code YN):=rfl
theorem aa1:bB 252=pp (.code ag1):=rfl
theorem JX:bB 253=pp (.code ag2):=rfl
theorem aa2:bB 254=pp (.code ag3):=rfl
theorem aa3:bB 260=pp (.code ag4):=rfl
theorem aa4:bB 261=pp (.code ag5):=rfl
theorem aa5:bB 271=pp (.code ag6):=rfl
theorem aa6:bB 272=pp (.code ag7):=rfl
theorem aa7:bB 273=pp (.code ag8):=rfl
theorem aa8:bB 282=pp (.code ag9):=rfl
theorem aa9:bB 283=pp (.code ag'):=rfl
theorem aa':bB 284=pp (.code aha):=rfl
theorem aba:bB 285=pp (.code ahb):=rfl
theorem JY:bB 286=pp (.code Ru):=rfl
theorem PS:bB 287=pp (.code ahc):=rfl
theorem abb:bB 288=pp (.code ahd):=rfl
theorem abc:bB 289=pp (.code ahe):=rfl
theorem abd:bB 290=pp (.code ahf):=rfl
theorem abe:bB 291=pp (.code ahg):=rfl
theorem abf:bB 292=pp (.code ahh):=rfl
theorem abg:bB 293=pp (.code ahi):=rfl
theorem abh:bB 294=pp (.code ahj):=rfl
theorem abi:bB 296=pp (.code ahk):=rfl
theorem abj:bB 300=pp (.jg rc Av):=rfl
theorem PU:bB 304=pp (.code Ud):=rfl
theorem abk:bB 305=pp (.code ahl):=rfl
theorem PW:bB 306=pp (.code ahm):=rfl
theorem abl:bB 307=pp (.code ahn):=rfl
theorem abm:bB 308=pp (.code aho):=rfl
theorem PX:bB 309=pp (.code Zf):=rfl
theorem abn:bB 310=pp (.code ahp):=rfl
theorem PY:bB 311=pp (.code Zi):=rfl
theorem abo:bB 312=pp (.code ahq):=rfl
theorem abp:bB 315=pp (.jg rc (fo 1)):=rfl
theorem abq:bB 316=pp (.code ahr):=rfl
theorem abr:bB 317=pp (.code ahs):=rfl
end Go.Proofs.YtlnclppkepgdmaaGreat
