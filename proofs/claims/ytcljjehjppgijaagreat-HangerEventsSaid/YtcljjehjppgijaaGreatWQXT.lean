/- The table of the seat's functions. Printed by a program. -/
import Derived.Test.YtcljjehjppgijaaGreatWQX1
import Derived.Test.YtcljjehjppgijaaGreatChecked
open Option renaming some->lw
open Bool renaming false->pp
set_option maxRecDepth 100000
namespace Go.Proofs.YtcljjehjppgijaaGreat
open Go.Vm
theorem jd:Go.Proofs.Tryz.prog.follows .mixedOrders=true:=Go.Proofs.Tryz.checked.mixed
theorem X8:x5 Go.Proofs.Tryz.prog 126 (.ja pp (ff 3)):=⟨rfl,mW jd (zero:=[.int .i64 0,.int .i64 0,.int .i64 0]) (by decide+kernel)⟩
theorem X9:x5 Go.Proofs.Tryz.prog 178 (.ja pp (ff 3)):=⟨rfl,mW jd (zero:=[.int .i64 0,.int .i64 0,.int .i64 0]) (by decide+kernel)⟩
theorem X':x5 Go.Proofs.Tryz.prog 179 (.ja pp (ff 3)):=⟨rfl,mW jd (zero:=[.int .i64 0,.int .i64 0,.int .i64 0]) (by decide+kernel)⟩
theorem Ya:x5 Go.Proofs.Tryz.prog 180 (.ja pp (ff 5)):=⟨rfl,mW jd (zero:=[.int .i64 0,.int .i64 0,.int .i64 0,.int .i64 0,.int .i64 0]) (by decide+kernel)⟩
theorem Yb:x5 Go.Proofs.Tryz.prog 181 (.ja pp (ff 1)):=⟨rfl,mW jd (zero:=[.int .i64 0]) (by decide+kernel)⟩
theorem Yc:x5 Go.Proofs.Tryz.prog 182 (.ja pp (ff 1)):=⟨rfl,mW jd (zero:=[.bool pp]) (by decide+kernel)⟩
theorem Yd:x5 Go.Proofs.Tryz.prog 283 (.ja pp z6):=⟨rfl,Me Go.Proofs.Tryz.func283 (by kernel_rfl) (by kernel_rfl) (by kernel_rfl) (by kernel_rfl)⟩
theorem Ye:x5 Go.Proofs.Tryz.prog 294 (.ja pp (ff 1)):=⟨rfl,mW jd (zero:=[.int .i64 0]) (by decide+kernel)⟩
noncomputable def ajo:TT:= .node 173 (.node 102 (.node 53 (.node 24 (.node 18 (.node 9 (.node 8 (.leaf 4 (.code x4)) (.leaf 8 (.code x8))) (.node 13 (.leaf 9 (.code x9)) (.node 14 (.leaf 13 (.code x13)) (.leaf 14 (.code x14))))) (.node 21 (.node 19 (.leaf 18 (.code x18)) (.node 20 (.leaf 19 (.code x19)) (.leaf 20 (.code x20)))) (.node 22 (.leaf 21 (.code x21)) (.node 23 (.leaf 22 (.code x22)) (.leaf 23 (.code x23)))))) (.node 31 (.node 27 (.node 25 (.leaf 24 (.code x24)) (.node 26 (.leaf 25 (.code x25)) (.leaf 26 (.code x26)))) (.node 28 (.leaf 27 (.code x27)) (.node 30 (.leaf 28 (.code x28)) (.leaf 30 (.code x30))))) (.node 50 (.node 32 (.leaf 31 (.code x31)) (.node 40 (.leaf 32 (.code x32)) (.leaf 40 (.code x40)))) (.node 51 (.leaf 50 (.code x50)) (.node 52 (.leaf 51 (.code x51)) (.leaf 52 (.code x52))))))) (.node 71 (.node 65 (.node 55 (.node 54 (.leaf 53 (.code x53)) (.leaf 54 (.code x54))) (.node 56 (.leaf 55 (.code x55)) (.node 64 (.leaf 56 (.code x56)) (.leaf 64 (.code x64))))) (.node 68 (.node 66 (.leaf 65 (.code x65)) (.node 67 (.leaf 66 (.code x66)) (.leaf 67 (.code x67)))) (.node 69 (.leaf 68 (.code x68)) (.node 70 (.leaf 69 (.code x69)) (.leaf 70 (.code x70)))))) (.node 82 (.node 74 (.node 72 (.leaf 71 (.code x71)) (.node 73 (.leaf 72 (.code x72)) (.leaf 73 (.code x73)))) (.node 76 (.leaf 74 (.code x74)) (.node 77 (.leaf 76 (.code x76)) (.leaf 77 (.code x77))))) (.node 96 (.node 83 (.leaf 82 (.code x82)) (.node 84 (.leaf 83 (.code x83)) (.leaf 84 (.code x84)))) (.node 97 (.leaf 96 (.code x96)) (.node 100 (.leaf 97 (.code x97)) (.leaf 100 (.code adQ)))))))) (.node 135 (.node 121 (.node 115 (.node 112 (.node 111 (.leaf 102 (.code adR)) (.leaf 111 (.code adS))) (.node 113 (.leaf 112 (.code adT)) (.node 114 (.leaf 113 (.code adU)) (.leaf 114 (.code adV))))) (.node 118 (.node 116 (.leaf 115 (.code adW)) (.node 117 (.leaf 116 (.code adX)) (.leaf 117 (.code adY)))) (.node 119 (.leaf 118 (.code adZ)) (.node 120 (.leaf 119 (.code ad0)) (.leaf 120 (.code ad1)))))) (.node 129 (.node 124 (.node 122 (.leaf 121 (.code ad2)) (.node 123 (.leaf 122 (.code ad3)) (.leaf 123 (.code ad4)))) (.node 126 (.leaf 124 (.code ad5)) (.node 127 (.leaf 126 (.ja pp (ff 3))) (.leaf 127 (.code ad6))))) (.node 132 (.node 130 (.leaf 129 (.code ad7)) (.node 131 (.leaf 130 (.code ad8)) (.leaf 131 (.code ad9)))) (.node 133 (.leaf 132 (.code aea)) (.node 134 (.leaf 133 (.code aeb)) (.leaf 134 (.code aec))))))) (.node 151 (.node 142 (.node 137 (.node 136 (.leaf 135 (.code aed)) (.leaf 136 (.code aee))) (.node 138 (.leaf 137 (.code aef)) (.node 140 (.leaf 138 (.code aeg)) (.leaf 140 (.code aeh))))) (.node 145 (.node 143 (.leaf 142 (.code aei)) (.node 144 (.leaf 143 (.code aej)) (.leaf 144 (.code aek)))) (.node 146 (.leaf 145 (.code ael)) (.node 147 (.leaf 146 (.code aem)) (.leaf 147 (.code aen)))))) (.node 167 (.node 160 (.node 155 (.leaf 151 (.code aeo)) (.node 159 (.leaf 155 (.code aep)) (.leaf 159 (.code aeq)))) (.node 162 (.leaf 160 (.code aer)) (.node 166 (.leaf 162 (.code aes)) (.leaf 166 (.code aet))))) (.node 170 (.node 168 (.leaf 167 (.code aeu)) (.node 169 (.leaf 168 (.code aev)) (.leaf 169 (.code aew)))) (.node 171 (.leaf 170 (.code aex)) (.node 172 (.leaf 171 (.code aey)) (.leaf 172 (.code aez))))))))) (.node 231 (.node 198 (.node 184 (.node 178 (.node 175 (.node 174 (.leaf 173 (.code aeA)) (.leaf 174 (.code aeB))) (.node 176 (.leaf 175 (.code aeC)) (.node 177 (.leaf 176 (.code aeD)) (.leaf 177 (.code aeE))))) (.node 181 (.node 179 (.leaf 178 (.ja pp (ff 3))) (.node 180 (.leaf 179 (.ja pp (ff 3))) (.leaf 180 (.ja pp (ff 5))))) (.node 182 (.leaf 181 (.ja pp (ff 1))) (.node 183 (.leaf 182 (.ja pp (ff 1))) (.leaf 183 (.code aeF)))))) (.node 192 (.node 189 (.node 185 (.leaf 184 (.code aeG)) (.node 186 (.leaf 185 (.code aeH)) (.leaf 186 (.code aeI)))) (.node 190 (.leaf 189 (.code aeJ)) (.node 191 (.leaf 190 (.code aeK)) (.leaf 191 (.code aeL))))) (.node 195 (.node 193 (.leaf 192 (.code aeM)) (.node 194 (.leaf 193 (.code aeN)) (.leaf 194 (.code aeO)))) (.node 196 (.leaf 195 (.code aeP)) (.node 197 (.leaf 196 (.code aeQ)) (.leaf 197 (.code aeR))))))) (.node 213 (.node 204 (.node 200 (.node 199 (.leaf 198 (.code aeS)) (.leaf 199 (.code aeT))) (.node 201 (.leaf 200 (.code aeU)) (.node 202 (.leaf 201 (.code aeV)) (.leaf 202 (.code aeW))))) (.node 209 (.node 205 (.leaf 204 (.code aeX)) (.node 208 (.leaf 205 (.code aeY)) (.leaf 208 (.code aeZ)))) (.node 210 (.leaf 209 (.code ae0)) (.node 212 (.leaf 210 (.code ae1)) (.leaf 212 (.code ae2)))))) (.node 225 (.node 222 (.node 215 (.leaf 213 (.code ae3)) (.node 217 (.leaf 215 (.code ae4)) (.leaf 217 (.code ae5)))) (.node 223 (.leaf 222 (.code ae6)) (.node 224 (.leaf 223 (.code ae7)) (.leaf 224 (.code ae8))))) (.node 228 (.node 226 (.leaf 225 (.code ae9)) (.node 227 (.leaf 226 (.code ae')) (.leaf 227 (.code afa)))) (.node 229 (.leaf 228 (.code afb)) (.node 230 (.leaf 229 (.code afc)) (.leaf 230 (.code afd)))))))) (.node 267 (.node 243 (.node 237 (.node 233 (.node 232 (.leaf 231 (.code afe)) (.leaf 232 (.code Xk))) (.node 234 (.leaf 233 (.code aff)) (.node 236 (.leaf 234 (.code afg)) (.leaf 236 (.code Xo))))) (.node 240 (.node 238 (.leaf 237 (.code Xq)) (.node 239 (.leaf 238 (.code afh)) (.leaf 239 (.code afi)))) (.node 241 (.leaf 240 (.code afj)) (.node 242 (.leaf 241 (.code afk)) (.leaf 242 (.code afl)))))) (.node 259 (.node 246 (.node 244 (.leaf 243 (.code afm)) (.node 245 (.leaf 244 (.code afn)) (.leaf 245 (.code afo)))) (.node 257 (.leaf 246 (.code afp)) (.node 258 (.leaf 257 (.code afq)) (.leaf 258 (.code afr))))) (.node 264 (.node 260 (.leaf 259 (.code afs)) (.node 263 (.leaf 260 (.code aft)) (.leaf 263 (.code afu)))) (.node 265 (.leaf 264 (.code afv)) (.node 266 (.leaf 265 (.code afw)) (.leaf 266 (.code afx))))))) (.node 285 (.node 272 (.node 269 (.node 268 (.leaf 267 (.code Qk)) (.leaf 268 (.code afy))) (.node 270 (.leaf 269 (.code afz)) (.node 271 (.leaf 270 (.code afA)) (.leaf 271 (.code afB))))) (.node 276 (.node 274 (.leaf 272 (.code afC)) (.node 275 (.leaf 274 (.code XP)) (.leaf 275 (.code afD)))) (.node 277 (.leaf 276 (.code afE)) (.node 283 (.leaf 277 (.code afF)) (.leaf 283 (.ja pp z6)))))) (.node 291 (.node 288 (.node 286 (.leaf 285 (.code S7)) (.node 287 (.leaf 286 (.code afG)) (.leaf 287 (.code afH)))) (.node 289 (.leaf 288 (.code afI)) (.node 290 (.leaf 289 (.code XZ)) (.leaf 290 (.code afJ))))) (.node 295 (.node 292 (.leaf 291 (.code X2)) (.node 294 (.leaf 292 (.code afK)) (.leaf 294 (.ja pp (ff 1))))) (.node 296 (.leaf 295 (.code afL)) (.node 297 (.leaf 296 (.code afM)) (.leaf 297 (.code afN)))))))))
theorem wj:ajo.All (x5 Go.Proofs.Tryz.prog):=⟨⟨⟨⟨⟨⟨⟨ajl,ajm⟩,⟨ajn,⟨ac9,ac'⟩⟩⟩,⟨⟨ada,⟨adb,ade⟩⟩,⟨adf,⟨adg,adh⟩⟩⟩⟩,⟨⟨⟨adi,⟨adj,adk⟩⟩,⟨adl,⟨adm,adn⟩⟩⟩,⟨⟨ado,⟨adp,adq⟩⟩,⟨adr,⟨ads,adt⟩⟩⟩⟩⟩,⟨⟨⟨⟨adu,adv⟩,⟨adw,⟨adx,ady⟩⟩⟩,⟨⟨adz,⟨adA,adB⟩⟩,⟨adC,⟨adD,adE⟩⟩⟩⟩,⟨⟨⟨adF,⟨adG,adH⟩⟩,⟨adI,⟨adJ,adK⟩⟩⟩,⟨⟨adL,⟨adM,adN⟩⟩,⟨adO,⟨adP,VL⟩⟩⟩⟩⟩⟩,⟨⟨⟨⟨⟨VM,VN⟩,⟨VO,⟨VP,VQ⟩⟩⟩,⟨⟨VS,⟨VT,VU⟩⟩,⟨VV,⟨VW,VX⟩⟩⟩⟩,⟨⟨⟨VY,⟨VZ,V0⟩⟩,⟨V1,⟨X8,V2⟩⟩⟩,⟨⟨V3,⟨V4,V5⟩⟩,⟨V6,⟨V7,V8⟩⟩⟩⟩⟩,⟨⟨⟨⟨V9,V'⟩,⟨Wb,⟨Wc,Wd⟩⟩⟩,⟨⟨We,⟨Wf,Wg⟩⟩,⟨Wh,⟨Wi,Wj⟩⟩⟩⟩,⟨⟨⟨Wk,⟨Wl,Wm⟩⟩,⟨Wn,⟨Wo,Wp⟩⟩⟩,⟨⟨Wq,⟨Wr,Ws⟩⟩,⟨Wt,⟨Wu,Wv⟩⟩⟩⟩⟩⟩⟩,⟨⟨⟨⟨⟨⟨Ww,Wx⟩,⟨Wy,⟨Wz,WA⟩⟩⟩,⟨⟨X9,⟨X',Ya⟩⟩,⟨Yb,⟨Yc,WB⟩⟩⟩⟩,⟨⟨⟨WC,⟨WD,WE⟩⟩,⟨WG,⟨WH,WI⟩⟩⟩,⟨⟨WJ,⟨WK,WL⟩⟩,⟨WM,⟨WN,WQ⟩⟩⟩⟩⟩,⟨⟨⟨⟨WR,WT⟩,⟨WU,⟨WV,WW⟩⟩⟩,⟨⟨WX,⟨WY,WZ⟩⟩,⟨W4,⟨W5,W6⟩⟩⟩⟩,⟨⟨⟨W7,⟨W8,W9⟩⟩,⟨Xa,⟨Xb,Xc⟩⟩⟩,⟨⟨Xd,⟨Xe,Xf⟩⟩,⟨Xg,⟨Xh,Xi⟩⟩⟩⟩⟩⟩,⟨⟨⟨⟨⟨Xj,Xl⟩,⟨Xm,⟨Xn,Xp⟩⟩⟩,⟨⟨Xr,⟨Xs,Xt⟩⟩,⟨Xu,⟨Xv,Xw⟩⟩⟩⟩,⟨⟨⟨Xx,⟨Xy,Xz⟩⟩,⟨XA,⟨XB,XC⟩⟩⟩,⟨⟨XD,⟨XE,XF⟩⟩,⟨XG,⟨XH,XI⟩⟩⟩⟩⟩,⟨⟨⟨⟨XJ,XK⟩,⟨XL,⟨XM,XN⟩⟩⟩,⟨⟨XO,⟨XQ,XS⟩⟩,⟨XT,⟨XU,Yd⟩⟩⟩⟩,⟨⟨⟨XV,⟨XW,XX⟩⟩,⟨XY,⟨X0,X1⟩⟩⟩,⟨⟨X3,⟨X4,Ye⟩⟩,⟨X5,⟨X6,X7⟩⟩⟩⟩⟩⟩⟩⟩
noncomputable def bA:kQ:=ajo.get
theorem ajp:bA 4=lw (.code x4):=rfl
theorem ajq:bA 8=lw (.code x8):=rfl
theorem ajr:bA 9=lw (.code x9):=rfl
theorem afO:bA 13=lw (.code x13):=rfl
theorem afP:bA 14=lw (.code x14):=rfl
theorem afQ:bA 18=lw (.code x18):=rfl
theorem afR:bA 19=lw (.code x19):=rfl
theorem afS:bA 20=lw (.code x20):=rfl
theorem afT:bA 21=lw (.code x21):=rfl
theorem afU:bA 22=lw (.code x22):=rfl
theorem afV:bA 23=lw (.code x23):=rfl
theorem afW:bA 24=lw (.code x24):=rfl
theorem afX:bA 25=lw (.code x25):=rfl
theorem afY:bA 26=lw (.code x26):=rfl
theorem afZ:bA 27=lw (.code x27):=rfl
theorem af0:bA 28=lw (.code x28):=rfl
theorem af1:bA 30=lw (.code x30):=rfl
theorem af2:bA 31=lw (.code x31):=rfl
theorem af3:bA 32=lw (.code x32):=rfl
theorem af4:bA 40=lw (.code x40):=rfl
theorem af5:bA 50=lw (.code x50):=rfl
theorem af6:bA 51=lw (.code x51):=rfl
theorem af7:bA 52=lw (.code x52):=rfl
theorem af8:bA 53=lw (.code x53):=rfl
theorem af9:bA 54=lw (.code x54):=rfl
theorem af':bA 55=lw (.code x55):=rfl
theorem aga:bA 56=lw (.code x56):=rfl
theorem agb:bA 64=lw (.code x64):=rfl
theorem agc:bA 65=lw (.code x65):=rfl
theorem age:bA 66=lw (.code x66):=rfl
theorem agf:bA 67=lw (.code x67):=rfl
theorem agh:bA 68=lw (.code x68):=rfl
theorem agi:bA 69=lw (.code x69):=rfl
theorem agj:bA 70=lw (.code x70):=rfl
theorem agk:bA 71=lw (.code x71):=rfl
theorem agl:bA 72=lw (.code x72):=rfl
theorem agm:bA 73=lw (.code x73):=rfl
theorem agn:bA 74=lw (.code x74):=rfl
theorem ago:bA 76=lw (.code x76):=rfl
theorem agp:bA 77=lw (.code x77):=rfl
theorem agq:bA 82=lw (.code x82):=rfl
theorem agr:bA 83=lw (.code x83):=rfl
theorem ags:bA 84=lw (.code x84):=rfl
theorem agt:bA 96=lw (.code x96):=rfl
theorem agu:bA 97=lw (.code x97):=rfl
theorem Yf:bA 100=lw (.code adQ):=rfl
theorem Yg:bA 102=lw (.code adR):=rfl
theorem Ov:bA 111=lw (.code adS):=rfl
theorem Yh:bA 112=lw (.code adT):=rfl
theorem Yi:bA 113=lw (.code adU):=rfl
theorem Yj:bA 114=lw (.code adV):=rfl
theorem Yk:bA 115=lw (.code adW):=rfl
theorem Yl:bA 116=lw (.code adX):=rfl
theorem Ym:bA 117=lw (.code adY):=rfl
theorem Yn:bA 118=lw (.code adZ):=rfl
theorem Yo:bA 119=lw (.code ad0):=rfl
theorem Yp:bA 120=lw (.code ad1):=rfl
theorem Ow:bA 121=lw (.code ad2):=rfl
theorem Yq:bA 122=lw (.code ad3):=rfl
theorem Yr:bA 123=lw (.code ad4):=rfl
theorem Ys:bA 124=lw (.code ad5):=rfl
theorem Yt:bA 126=lw (.ja pp (ff 3)):=rfl
theorem Yu:bA 127=lw (.code ad6):=rfl
theorem Yv:bA 129=lw (.code ad7):=rfl
theorem Yw:bA 130=lw (.code ad8):=rfl
theorem Yx:bA 131=lw (.code ad9):=rfl
theorem Yy:bA 132=lw (.code aea):=rfl
theorem Yz:bA 133=lw (.code aeb):=rfl
theorem YA:bA 134=lw (.code aec):=rfl
theorem YB:bA 135=lw (.code aed):=rfl
theorem YC:bA 136=lw (.code aee):=rfl
theorem YD:bA 137=lw (.code aef):=rfl
theorem YE:bA 138=lw (.code aeg):=rfl
theorem Ox:bA 140=lw (.code aeh):=rfl
theorem Oy:bA 142=lw (.code aei):=rfl
theorem YF:bA 143=lw (.code aej):=rfl
theorem YG:bA 144=lw (.code aek):=rfl
theorem YH:bA 145=lw (.code ael):=rfl
theorem YI:bA 146=lw (.code aem):=rfl
theorem YJ:bA 147=lw (.code aen):=rfl
theorem YK:bA 151=lw (.code aeo):=rfl
theorem YL:bA 155=lw (.code aep):=rfl
theorem YM:bA 159=lw (.code aeq):=rfl
theorem YN:bA 160=lw (.code aer):=rfl
theorem YO:bA 162=lw (.code aes):=rfl
theorem YP:bA 166=lw (.code aet):=rfl
theorem YQ:bA 167=lw (.code aeu):=rfl
theorem YR:bA 168=lw (.code aev):=rfl
theorem YS:bA 169=lw (.code aew):=rfl
theorem YT:bA 170=lw (.code aex):=rfl
theorem YU:bA 171=lw (.code aey):=rfl
theorem YV:bA 172=lw (.code aez):=rfl
theorem YW:bA 173=lw (.code aeA):=rfl
theorem YX:bA 174=lw (.code aeB):=rfl
theorem YY:bA 175=lw (.code aeC):=rfl
theorem YZ:bA 176=lw (.code aeD):=rfl
theorem Oz:bA 177=lw (.code aeE):=rfl
theorem Y0:bA 178=lw (.ja pp (ff 3)):=rfl
theorem Y1:bA 179=lw (.ja pp (ff 3)):=rfl
theorem Y2:bA 180=lw (.ja pp (ff 5)):=rfl
theorem Y3:bA 181=lw (.ja pp (ff 1)):=rfl
theorem Y4:bA 182=lw (.ja pp (ff 1)):=rfl
theorem Y5:bA 183=lw (.code aeF):=rfl
theorem OA:bA 184=lw (.code aeG):=rfl
theorem Y6:bA 185=lw (.code aeH):=rfl
theorem Y7:bA 186=lw (.code aeI):=rfl
theorem Y8:bA 189=lw (.code aeJ):=rfl
theorem Y9:bA 190=lw (.code aeK):=rfl
theorem Y':bA 191=lw (.code aeL):=rfl
theorem Za:bA 192=lw (.code aeM):=rfl
theorem Zb:bA 193=lw (.code aeN):=rfl
theorem Zc:bA 194=lw (.code aeO):=rfl
theorem OB:bA 195=lw (.code aeP):=rfl
theorem Zd:bA 196=lw (.code aeQ):=rfl
theorem Ze:bA 197=lw (.code aeR):=rfl
theorem Zf:bA 198=lw (.code aeS):=rfl
theorem Zg:bA 199=lw (.code aeT):=rfl
theorem Zh:bA 200=lw (.code aeU):=rfl
theorem Zi:bA 201=lw (.code aeV):=rfl
theorem Zj:bA 202=lw (.code aeW):=rfl
theorem Zk:bA 204=lw (.code aeX):=rfl
theorem Zl:bA 205=lw (.code aeY):=rfl
theorem Zm:bA 208=lw (.code aeZ):=rfl
theorem Zn:bA 209=lw (.code ae0):=rfl
theorem Zo:bA 210=lw (.code ae1):=rfl
theorem OC:bA 212=lw (.code ae2):=rfl
theorem Zp:bA 213=lw (.code ae3):=rfl
theorem Zq:bA 215=lw (.code ae4):=rfl
theorem Zr:bA 217=lw (.code ae5):=rfl
theorem Zs:bA 222=lw (.code ae6):=rfl
theorem Zt:bA 223=lw (.code ae7):=rfl
theorem Zu:bA 224=lw (.code ae8):=rfl
theorem Zv:bA 225=lw (.code ae9):=rfl
theorem Zw:bA 226=lw (.code ae'):=rfl
theorem Zx:bA 227=lw (.code afa):=rfl
theorem Zy:bA 228=lw (.code afb):=rfl
theorem Zz:bA 229=lw (.code afc):=rfl
theorem ZA:bA 230=lw (.code afd):=rfl
theorem ZB:bA 231=lw (.code afe):=rfl
theorem OD:bA 232=lw (.code Xk):=rfl
theorem ZC:bA 233=lw (.code aff):=rfl
theorem ZD:bA 234=lw (.code afg):=rfl
theorem ZE:bA 236=lw (.code Xo):=rfl
theorem ZF:bA 237=lw (.code Xq):=rfl
theorem ZG:bA 238=lw (.code afh):=rfl
theorem ZH:bA 239=lw (.code afi):=rfl
theorem ZI:bA 240=lw (.code afj):=rfl
theorem ZJ:bA 241=lw (.code afk):=rfl
theorem ZK:bA 242=lw (.code afl):=rfl
theorem ZL:bA 243=lw (.code afm):=rfl
theorem ZM:bA 244=lw (.code afn):=rfl
theorem ZN:bA 245=lw (.code afo):=rfl
theorem ZO:bA 246=lw (.code afp):=rfl
theorem ZP:bA 257=lw (.code afq):=rfl
theorem OE:bA 258=lw (.code afr):=rfl
theorem ZQ:bA 259=lw (.code afs):=rfl
theorem ZR:bA 260=lw (.code aft):=rfl
theorem ZS:bA 263=lw (.code afu):=rfl
theorem ZT:bA 264=lw (.code afv):=rfl
theorem ZU:bA 265=lw (.code afw):=rfl
theorem ZV:bA 266=lw (.code afx):=rfl
theorem IT:bA 267=lw (.code Qk):=rfl
theorem OF:bA 268=lw (.code afy):=rfl
theorem ZW:bA 269=lw (.code afz):=rfl
theorem ZX:bA 270=lw (.code afA):=rfl
theorem ZY:bA 271=lw (.code afB):=rfl
theorem ZZ:bA 272=lw (.code afC):=rfl
theorem Z0:bA 274=lw (.code XP):=rfl
theorem Z1:bA 275=lw (.code afD):=rfl
theorem Z2:bA 276=lw (.code afE):=rfl
theorem Z3:bA 277=lw (.code afF):=rfl
theorem Z4:bA 283=lw (.ja pp z6):=rfl
theorem OG:bA 285=lw (.code S7):=rfl
theorem Z5:bA 286=lw (.code afG):=rfl
theorem OH:bA 287=lw (.code afH):=rfl
theorem Z6:bA 288=lw (.code afI):=rfl
theorem OI:bA 289=lw (.code XZ):=rfl
theorem Z7:bA 290=lw (.code afJ):=rfl
theorem OJ:bA 291=lw (.code X2):=rfl
theorem Z8:bA 292=lw (.code afK):=rfl
theorem Z9:bA 294=lw (.ja pp (ff 1)):=rfl
theorem Z':bA 295=lw (.code afL):=rfl
theorem aaa:bA 296=lw (.code afM):=rfl
theorem aab:bA 297=lw (.code afN):=rfl
end Go.Proofs.YtcljjehjppgijaaGreat
