/- The table of the seat's functions. Printed by a program. -/
import Derived.Test.YthljmpcakagceaaGreatHQX1
import Derived.Test.YthljmpcakagceaaGreatChecked
open Option renaming some->v6
open Bool renaming false->ww
set_option maxRecDepth 100000
namespace Go.Proofs.YthljmpcakagceaaGreat
open Go.Vm
theorem jc:Go.Proofs.Tryz.prog.follows .mixedOrders=true:=Go.Proofs.Tryz.checked.mixed
theorem Xt:xE Go.Proofs.Tryz.prog 103 (.iZ ww (fk 3)):=⟨rfl,mK jc (zero:=[.int .i64 0,.int .i64 0,.int .i64 0]) (by decide+kernel)⟩
theorem Xu:xE Go.Proofs.Tryz.prog 182 (.iZ ww (fk 3)):=⟨rfl,mK jc (zero:=[.int .i64 0,.int .i64 0,.int .i64 0]) (by decide+kernel)⟩
theorem Xv:xE Go.Proofs.Tryz.prog 183 (.iZ ww (fk 3)):=⟨rfl,mK jc (zero:=[.int .i64 0,.int .i64 0,.int .i64 0]) (by decide+kernel)⟩
theorem Xw:xE Go.Proofs.Tryz.prog 184 (.iZ ww (fk 5)):=⟨rfl,mK jc (zero:=[.int .i64 0,.int .i64 0,.int .i64 0,.int .i64 0,.int .i64 0]) (by decide+kernel)⟩
theorem Xx:xE Go.Proofs.Tryz.prog 185 (.iZ ww (fk 1)):=⟨rfl,mK jc (zero:=[.int .i64 0]) (by decide+kernel)⟩
theorem Xy:xE Go.Proofs.Tryz.prog 186 (.iZ ww (fk 1)):=⟨rfl,mK jc (zero:=[.bool ww]) (by decide+kernel)⟩
theorem Xz:xE Go.Proofs.Tryz.prog 242 (.iZ ww zB):=⟨rfl,LK Go.Proofs.Tryz.func242 (by kernel_rfl) (by kernel_rfl) (by kernel_rfl) (by kernel_rfl)⟩
theorem XA:xE Go.Proofs.Tryz.prog 306 (.iZ ww (fk 1)):=⟨rfl,mK jc (zero:=[.int .i64 0]) (by decide+kernel)⟩
noncomputable def ai2:TT:= .node 157 (.node 83 (.node 52 (.node 27 (.node 14 (.node 11 (.node 10 (.leaf 5 (.code x5)) (.leaf 10 (.code x10))) (.node 12 (.leaf 11 (.code x11)) (.node 13 (.leaf 12 (.code x12)) (.leaf 13 (.code x13))))) (.node 23 (.node 21 (.leaf 14 (.code x14)) (.node 22 (.leaf 21 (.code x21)) (.leaf 22 (.code x22)))) (.node 24 (.leaf 23 (.code x23)) (.node 25 (.leaf 24 (.code x24)) (.leaf 25 (.code x25)))))) (.node 34 (.node 31 (.node 29 (.leaf 27 (.code x27)) (.node 30 (.leaf 29 (.code x29)) (.leaf 30 (.code x30)))) (.node 32 (.leaf 31 (.code x31)) (.node 33 (.leaf 32 (.code x32)) (.leaf 33 (.code x33))))) (.node 45 (.node 35 (.leaf 34 (.code x34)) (.node 36 (.leaf 35 (.code x35)) (.leaf 36 (.code x36)))) (.node 50 (.leaf 45 (.code x45)) (.node 51 (.leaf 50 (.code x50)) (.leaf 51 (.code x51))))))) (.node 70 (.node 57 (.node 54 (.node 53 (.leaf 52 (.code x52)) (.leaf 53 (.code x53))) (.node 55 (.leaf 54 (.code x54)) (.node 56 (.leaf 55 (.code x55)) (.leaf 56 (.code x56))))) (.node 67 (.node 58 (.leaf 57 (.code x57)) (.node 66 (.leaf 58 (.code x58)) (.leaf 66 (.code x66)))) (.node 68 (.leaf 67 (.code x67)) (.node 69 (.leaf 68 (.code x68)) (.leaf 69 (.code x69)))))) (.node 77 (.node 73 (.node 71 (.leaf 70 (.code x70)) (.node 72 (.leaf 71 (.code x71)) (.leaf 72 (.code x72)))) (.node 74 (.leaf 73 (.code x73)) (.node 75 (.leaf 74 (.code x74)) (.leaf 75 (.code x75))))) (.node 80 (.node 78 (.leaf 77 (.code x77)) (.node 79 (.leaf 78 (.code x78)) (.leaf 79 (.code x79)))) (.node 81 (.leaf 80 (.code x80)) (.node 82 (.leaf 81 (.code x81)) (.leaf 82 (.code x82)))))))) (.node 122 (.node 107 (.node 99 (.node 86 (.node 85 (.leaf 83 (.code x83)) (.leaf 85 (.code x85))) (.node 87 (.leaf 86 (.code x86)) (.node 88 (.leaf 87 (.code x87)) (.leaf 88 (.code x88))))) (.node 103 (.node 100 (.leaf 99 (.code x99)) (.node 101 (.leaf 100 (.code adk)) (.leaf 101 (.code adl)))) (.node 104 (.leaf 103 (.iZ ww (fk 3))) (.node 106 (.leaf 104 (.code adm)) (.leaf 106 (.code adn)))))) (.node 116 (.node 110 (.node 108 (.leaf 107 (.code ado)) (.node 109 (.leaf 108 (.code adp)) (.leaf 109 (.code adq)))) (.node 111 (.leaf 110 (.code adr)) (.node 115 (.leaf 111 (.code ads)) (.leaf 115 (.code adt))))) (.node 119 (.node 117 (.leaf 116 (.code adu)) (.node 118 (.leaf 117 (.code adv)) (.leaf 118 (.code adw)))) (.node 120 (.leaf 119 (.code adx)) (.node 121 (.leaf 120 (.code ady)) (.leaf 121 (.code adz))))))) (.node 136 (.node 130 (.node 125 (.node 123 (.leaf 122 (.code adA)) (.node 124 (.leaf 123 (.code adB)) (.leaf 124 (.code adC)))) (.node 128 (.leaf 125 (.code adD)) (.node 129 (.leaf 128 (.code adE)) (.leaf 129 (.code adF))))) (.node 133 (.node 131 (.leaf 130 (.code adG)) (.node 132 (.leaf 131 (.code adH)) (.leaf 132 (.code adI)))) (.node 134 (.leaf 133 (.code adJ)) (.node 135 (.leaf 134 (.code adK)) (.leaf 135 (.code adL)))))) (.node 144 (.node 141 (.node 137 (.leaf 136 (.code adM)) (.node 139 (.leaf 137 (.code adN)) (.leaf 139 (.code adO)))) (.node 142 (.leaf 141 (.code adP)) (.node 143 (.leaf 142 (.code adQ)) (.leaf 143 (.code adR))))) (.node 154 (.node 145 (.leaf 144 (.code adS)) (.node 146 (.leaf 145 (.code adT)) (.leaf 146 (.code adU)))) (.node 155 (.leaf 154 (.code adV)) (.node 156 (.leaf 155 (.code adW)) (.leaf 156 (.code adX))))))))) (.node 217 (.node 183 (.node 170 (.node 164 (.node 161 (.node 160 (.leaf 157 (.code adY)) (.leaf 160 (.code adZ))) (.node 162 (.leaf 161 (.code ad0)) (.node 163 (.leaf 162 (.code ad1)) (.leaf 163 (.code ad2))))) (.node 167 (.node 165 (.leaf 164 (.code ad3)) (.node 166 (.leaf 165 (.code ad4)) (.leaf 166 (.code ad5)))) (.node 168 (.leaf 167 (.code ad6)) (.node 169 (.leaf 168 (.code ad7)) (.leaf 169 (.code ad8)))))) (.node 177 (.node 174 (.node 171 (.leaf 170 (.code V0)) (.node 173 (.leaf 171 (.code ad9)) (.leaf 173 (.code aea)))) (.node 175 (.leaf 174 (.code aeb)) (.node 176 (.leaf 175 (.code aec)) (.leaf 176 (.code aed))))) (.node 180 (.node 178 (.leaf 177 (.code aee)) (.node 179 (.leaf 178 (.code aef)) (.leaf 179 (.code aeg)))) (.node 181 (.leaf 180 (.code aeh)) (.node 182 (.leaf 181 (.code aei)) (.leaf 182 (.iZ ww (fk 3)))))))) (.node 199 (.node 191 (.node 186 (.node 184 (.leaf 183 (.iZ ww (fk 3))) (.node 185 (.leaf 184 (.iZ ww (fk 5))) (.leaf 185 (.iZ ww (fk 1))))) (.node 189 (.leaf 186 (.iZ ww (fk 1))) (.node 190 (.leaf 189 (.code aej)) (.leaf 190 (.code aek))))) (.node 194 (.node 192 (.leaf 191 (.code ael)) (.node 193 (.leaf 192 (.code aem)) (.leaf 193 (.code aen)))) (.node 195 (.leaf 194 (.code aeo)) (.node 197 (.leaf 195 (.code aep)) (.leaf 197 (.code aeq)))))) (.node 211 (.node 207 (.node 200 (.leaf 199 (.code aer)) (.node 201 (.leaf 200 (.code aes)) (.leaf 201 (.code aet)))) (.node 209 (.leaf 207 (.code aeu)) (.node 210 (.leaf 209 (.code aev)) (.leaf 210 (.code aew))))) (.node 214 (.node 212 (.leaf 211 (.code aex)) (.node 213 (.leaf 212 (.code aey)) (.leaf 213 (.code aez)))) (.node 215 (.leaf 214 (.code aeA)) (.node 216 (.leaf 215 (.code Wu)) (.leaf 216 (.code aeB)))))))) (.node 267 (.node 228 (.node 222 (.node 219 (.node 218 (.leaf 217 (.code aeC)) (.leaf 218 (.code aeD))) (.node 220 (.leaf 219 (.code aeE)) (.node 221 (.leaf 220 (.code aeF)) (.leaf 221 (.code aeG))))) (.node 225 (.node 223 (.leaf 222 (.code aeH)) (.node 224 (.leaf 223 (.code aeI)) (.leaf 224 (.code aeJ)))) (.node 226 (.leaf 225 (.code aeK)) (.node 227 (.leaf 226 (.code aeL)) (.leaf 227 (.code aeM)))))) (.node 252 (.node 241 (.node 229 (.leaf 228 (.code aeN)) (.node 230 (.leaf 229 (.code aeO)) (.leaf 230 (.code aeP)))) (.node 242 (.leaf 241 (.code aeQ)) (.node 243 (.leaf 242 (.iZ ww zB)) (.leaf 243 (.code aeR))))) (.node 264 (.node 262 (.leaf 252 (.code aeS)) (.node 263 (.leaf 262 (.code aeT)) (.leaf 263 (.code aeU)))) (.node 265 (.leaf 264 (.code aeV)) (.node 266 (.leaf 265 (.code aeW)) (.leaf 266 (.code aeX))))))) (.node 293 (.node 273 (.node 270 (.node 268 (.leaf 267 (.code WX)) (.node 269 (.leaf 268 (.code WZ)) (.leaf 269 (.code aeY)))) (.node 271 (.leaf 270 (.code aeZ)) (.node 272 (.leaf 271 (.code ae0)) (.leaf 272 (.code ae1))))) (.node 276 (.node 274 (.leaf 273 (.code ae2)) (.node 275 (.leaf 274 (.code ae3)) (.leaf 275 (.code PS)))) (.node 282 (.leaf 276 (.code ae4)) (.node 292 (.leaf 282 (.code ae5)) (.leaf 292 (.code ae6)))))) (.node 299 (.node 296 (.node 294 (.leaf 293 (.code Xf)) (.node 295 (.leaf 294 (.code ae7)) (.leaf 295 (.code Xi)))) (.node 297 (.leaf 296 (.code Xk)) (.node 298 (.leaf 297 (.code ae8)) (.leaf 298 (.code Sn))))) (.node 304 (.node 300 (.leaf 299 (.code ae9)) (.node 302 (.leaf 300 (.code ae')) (.leaf 302 (.code afa)))) (.node 305 (.leaf 304 (.code afb)) (.node 306 (.leaf 305 (.code afc)) (.leaf 306 (.iZ ww (fk 1))))))))))
theorem vK:ai2.All (xE Go.Proofs.Tryz.prog):=⟨⟨⟨⟨⟨⟨⟨ai1,acu⟩,⟨acv,⟨acw,acx⟩⟩⟩,⟨⟨acy,⟨acz,acA⟩⟩,⟨acB,⟨acC,acD⟩⟩⟩⟩,⟨⟨⟨acE,⟨acF,acG⟩⟩,⟨acH,⟨acI,acJ⟩⟩⟩,⟨⟨acK,⟨acL,acM⟩⟩,⟨acN,⟨acO,acP⟩⟩⟩⟩⟩,⟨⟨⟨⟨acQ,acR⟩,⟨acS,⟨acT,acU⟩⟩⟩,⟨⟨acV,⟨acW,acX⟩⟩,⟨acY,⟨acZ,ac0⟩⟩⟩⟩,⟨⟨⟨ac1,⟨ac2,ac3⟩⟩,⟨ac4,⟨ac5,ac6⟩⟩⟩,⟨⟨ac7,⟨ac8,ac9⟩⟩,⟨ac',⟨ada,adb⟩⟩⟩⟩⟩⟩,⟨⟨⟨⟨⟨ade,adf⟩,⟨adg,⟨adh,adi⟩⟩⟩,⟨⟨adj,⟨U',Va⟩⟩,⟨Xt,⟨Vb,Vc⟩⟩⟩⟩,⟨⟨⟨Vd,⟨Ve,Vf⟩⟩,⟨Vg,⟨Vh,Vi⟩⟩⟩,⟨⟨Vj,⟨Vk,Vl⟩⟩,⟨Vn,⟨Vo,Vp⟩⟩⟩⟩⟩,⟨⟨⟨⟨Vq,⟨Vr,Vs⟩⟩,⟨Vt,⟨Vu,Vv⟩⟩⟩,⟨⟨Vw,⟨Vx,Vy⟩⟩,⟨Vz,⟨VA,VB⟩⟩⟩⟩,⟨⟨⟨VC,⟨VD,VE⟩⟩,⟨VF,⟨VG,VH⟩⟩⟩,⟨⟨VI,⟨VJ,VK⟩⟩,⟨VL,⟨VM,VN⟩⟩⟩⟩⟩⟩⟩,⟨⟨⟨⟨⟨⟨VO,VP⟩,⟨VQ,⟨VS,VT⟩⟩⟩,⟨⟨VU,⟨VV,VW⟩⟩,⟨VX,⟨VY,VZ⟩⟩⟩⟩,⟨⟨⟨V1,⟨V2,V3⟩⟩,⟨V4,⟨V5,V6⟩⟩⟩,⟨⟨V7,⟨V8,V9⟩⟩,⟨V',⟨Wb,Xu⟩⟩⟩⟩⟩,⟨⟨⟨⟨Xv,⟨Xw,Xx⟩⟩,⟨Xy,⟨Wc,Wd⟩⟩⟩,⟨⟨We,⟨Wf,Wg⟩⟩,⟨Wh,⟨Wi,Wj⟩⟩⟩⟩,⟨⟨⟨Wk,⟨Wl,Wm⟩⟩,⟨Wn,⟨Wo,Wp⟩⟩⟩,⟨⟨Wq,⟨Wr,Ws⟩⟩,⟨Wt,⟨Wv,Ww⟩⟩⟩⟩⟩⟩,⟨⟨⟨⟨⟨Wx,Wy⟩,⟨Wz,⟨WA,WB⟩⟩⟩,⟨⟨WC,⟨WD,WE⟩⟩,⟨WG,⟨WH,WI⟩⟩⟩⟩,⟨⟨⟨WJ,⟨WK,WL⟩⟩,⟨WM,⟨Xz,WN⟩⟩⟩,⟨⟨WQ,⟨WR,WT⟩⟩,⟨WU,⟨WV,WW⟩⟩⟩⟩⟩,⟨⟨⟨⟨WY,⟨W4,W5⟩⟩,⟨W6,⟨W7,W8⟩⟩⟩,⟨⟨W9,⟨Xa,Xb⟩⟩,⟨Xc,⟨Xd,Xe⟩⟩⟩⟩,⟨⟨⟨Xg,⟨Xh,Xj⟩⟩,⟨Xl,⟨Xm,Xn⟩⟩⟩,⟨⟨Xo,⟨Xp,Xq⟩⟩,⟨Xr,⟨Xs,XA⟩⟩⟩⟩⟩⟩⟩⟩
noncomputable def bD:kH:=ai2.get
theorem ai3:bD 5=v6 (.code x5):=rfl
theorem afd:bD 10=v6 (.code x10):=rfl
theorem afe:bD 11=v6 (.code x11):=rfl
theorem aff:bD 12=v6 (.code x12):=rfl
theorem afg:bD 13=v6 (.code x13):=rfl
theorem afh:bD 14=v6 (.code x14):=rfl
theorem afi:bD 21=v6 (.code x21):=rfl
theorem afj:bD 22=v6 (.code x22):=rfl
theorem afk:bD 23=v6 (.code x23):=rfl
theorem afl:bD 24=v6 (.code x24):=rfl
theorem afm:bD 25=v6 (.code x25):=rfl
theorem afn:bD 27=v6 (.code x27):=rfl
theorem afo:bD 29=v6 (.code x29):=rfl
theorem afp:bD 30=v6 (.code x30):=rfl
theorem afq:bD 31=v6 (.code x31):=rfl
theorem afr:bD 32=v6 (.code x32):=rfl
theorem afs:bD 33=v6 (.code x33):=rfl
theorem aft:bD 34=v6 (.code x34):=rfl
theorem afu:bD 35=v6 (.code x35):=rfl
theorem afv:bD 36=v6 (.code x36):=rfl
theorem afw:bD 45=v6 (.code x45):=rfl
theorem afx:bD 50=v6 (.code x50):=rfl
theorem afy:bD 51=v6 (.code x51):=rfl
theorem afz:bD 52=v6 (.code x52):=rfl
theorem afA:bD 53=v6 (.code x53):=rfl
theorem afB:bD 54=v6 (.code x54):=rfl
theorem afC:bD 55=v6 (.code x55):=rfl
theorem afD:bD 56=v6 (.code x56):=rfl
theorem afE:bD 57=v6 (.code x57):=rfl
theorem afF:bD 58=v6 (.code x58):=rfl
theorem afG:bD 66=v6 (.code x66):=rfl
theorem afH:bD 67=v6 (.code x67):=rfl
theorem afI:bD 68=v6 (.code x68):=rfl
theorem afJ:bD 69=v6 (.code x69):=rfl
theorem afK:bD 70=v6 (.code x70):=rfl
theorem afL:bD 71=v6 (.code x71):=rfl
theorem afM:bD 72=v6 (.code x72):=rfl
theorem afN:bD 73=v6 (.code x73):=rfl
theorem afO:bD 74=v6 (.code x74):=rfl
theorem afP:bD 75=v6 (.code x75):=rfl
theorem afQ:bD 77=v6 (.code x77):=rfl
theorem afR:bD 78=v6 (.code x78):=rfl
theorem afS:bD 79=v6 (.code x79):=rfl
theorem afT:bD 80=v6 (.code x80):=rfl
theorem afU:bD 81=v6 (.code x81):=rfl
theorem afV:bD 82=v6 (.code x82):=rfl
theorem afW:bD 83=v6 (.code x83):=rfl
theorem afX:bD 85=v6 (.code x85):=rfl
theorem afY:bD 86=v6 (.code x86):=rfl
theorem afZ:bD 87=v6 (.code x87):=rfl
theorem af0:bD 88=v6 (.code x88):=rfl
theorem af1:bD 99=v6 (.code x99):=rfl
theorem XB:bD 100=v6 (.code adk):=rfl
theorem XC:bD 101=v6 (.code adl):=rfl
theorem XD:bD 103=v6 (.iZ ww (fk 3)):=rfl
theorem XE:bD 104=v6 (.code adm):=rfl
theorem XF:bD 106=v6 (.code adn):=rfl
theorem XG:bD 107=v6 (.code ado):=rfl
theorem XH:bD 108=v6 (.code adp):=rfl
theorem XI:bD 109=v6 (.code adq):=rfl
theorem XJ:bD 110=v6 (.code adr):=rfl
theorem XK:bD 111=v6 (.code ads):=rfl
theorem XL:bD 115=v6 (.code adt):=rfl
theorem XM:bD 116=v6 (.code adu):=rfl
theorem XN:bD 117=v6 (.code adv):=rfl
theorem XO:bD 118=v6 (.code adw):=rfl
theorem XP:bD 119=v6 (.code adx):=rfl
theorem XQ:bD 120=v6 (.code ady):=rfl
theorem XS:bD 121=v6 (.code adz):=rfl
theorem XT:bD 122=v6 (.code adA):=rfl
theorem XU:bD 123=v6 (.code adB):=rfl
theorem XV:bD 124=v6 (.code adC):=rfl
theorem NV:bD 125=v6 (.code adD):=rfl
theorem XW:bD 128=v6 (.code adE):=rfl
theorem XX:bD 129=v6 (.code adF):=rfl
theorem XY:bD 130=v6 (.code adG):=rfl
theorem XZ:bD 131=v6 (.code adH):=rfl
theorem X0:bD 132=v6 (.code adI):=rfl
theorem X1:bD 133=v6 (.code adJ):=rfl
theorem X2:bD 134=v6 (.code adK):=rfl
theorem X3:bD 135=v6 (.code adL):=rfl
theorem X4:bD 136=v6 (.code adM):=rfl
theorem X5:bD 137=v6 (.code adN):=rfl
theorem NW:bD 139=v6 (.code adO):=rfl
theorem NX:bD 141=v6 (.code adP):=rfl
theorem X6:bD 142=v6 (.code adQ):=rfl
theorem X7:bD 143=v6 (.code adR):=rfl
theorem X8:bD 144=v6 (.code adS):=rfl
theorem X9:bD 145=v6 (.code adT):=rfl
theorem X':bD 146=v6 (.code adU):=rfl
theorem Ya:bD 154=v6 (.code adV):=rfl
theorem NY:bD 155=v6 (.code adW):=rfl
theorem Yb:bD 156=v6 (.code adX):=rfl
theorem Yc:bD 157=v6 (.code adY):=rfl
theorem Yd:bD 160=v6 (.code adZ):=rfl
theorem Ye:bD 161=v6 (.code ad0):=rfl
theorem NZ:bD 162=v6 (.code ad1):=rfl
theorem Yf:bD 163=v6 (.code ad2):=rfl
theorem Yg:bD 164=v6 (.code ad3):=rfl
theorem Yh:bD 165=v6 (.code ad4):=rfl
theorem N0:bD 166=v6 (.code ad5):=rfl
theorem Yi:bD 167=v6 (.code ad6):=rfl
theorem Yj:bD 168=v6 (.code ad7):=rfl
theorem Yk:bD 169=v6 (.code ad8):=rfl
theorem N3:bD 170=v6 (.code V0):=rfl
theorem It:bD 171=v6 (.code ad9):=rfl
theorem Yl:bD 173=v6 (.code aea):=rfl
theorem Ym:bD 174=v6 (.code aeb):=rfl
theorem Yn:bD 175=v6 (.code aec):=rfl
theorem Yo:bD 176=v6 (.code aed):=rfl
theorem Yp:bD 177=v6 (.code aee):=rfl
theorem Yq:bD 178=v6 (.code aef):=rfl
theorem Yr:bD 179=v6 (.code aeg):=rfl
theorem Ys:bD 180=v6 (.code aeh):=rfl
theorem Yt:bD 181=v6 (.code aei):=rfl
theorem Yu:bD 182=v6 (.iZ ww (fk 3)):=rfl
theorem Yv:bD 183=v6 (.iZ ww (fk 3)):=rfl
theorem Yw:bD 184=v6 (.iZ ww (fk 5)):=rfl
theorem Yx:bD 185=v6 (.iZ ww (fk 1)):=rfl
theorem Yy:bD 186=v6 (.iZ ww (fk 1)):=rfl
theorem Yz:bD 189=v6 (.code aej):=rfl
theorem YA:bD 190=v6 (.code aek):=rfl
theorem YB:bD 191=v6 (.code ael):=rfl
theorem YC:bD 192=v6 (.code aem):=rfl
theorem YD:bD 193=v6 (.code aen):=rfl
theorem YE:bD 194=v6 (.code aeo):=rfl
theorem YF:bD 195=v6 (.code aep):=rfl
theorem YG:bD 197=v6 (.code aeq):=rfl
theorem YH:bD 199=v6 (.code aer):=rfl
theorem YI:bD 200=v6 (.code aes):=rfl
theorem YJ:bD 201=v6 (.code aet):=rfl
theorem YK:bD 207=v6 (.code aeu):=rfl
theorem YL:bD 209=v6 (.code aev):=rfl
theorem YM:bD 210=v6 (.code aew):=rfl
theorem YN:bD 211=v6 (.code aex):=rfl
theorem YO:bD 212=v6 (.code aey):=rfl
theorem YP:bD 213=v6 (.code aez):=rfl
theorem YQ:bD 214=v6 (.code aeA):=rfl
theorem N4:bD 215=v6 (.code Wu):=rfl
theorem YR:bD 216=v6 (.code aeB):=rfl
theorem YS:bD 217=v6 (.code aeC):=rfl
theorem YT:bD 218=v6 (.code aeD):=rfl
theorem YU:bD 219=v6 (.code aeE):=rfl
theorem YV:bD 220=v6 (.code aeF):=rfl
theorem YW:bD 221=v6 (.code aeG):=rfl
theorem Iu:bD 222=v6 (.code aeH):=rfl
theorem YX:bD 223=v6 (.code aeI):=rfl
theorem YY:bD 224=v6 (.code aeJ):=rfl
theorem YZ:bD 225=v6 (.code aeK):=rfl
theorem Y0:bD 226=v6 (.code aeL):=rfl
theorem Y1:bD 227=v6 (.code aeM):=rfl
theorem Y2:bD 228=v6 (.code aeN):=rfl
theorem Y3:bD 229=v6 (.code aeO):=rfl
theorem Y4:bD 230=v6 (.code aeP):=rfl
theorem Y5:bD 241=v6 (.code aeQ):=rfl
theorem Y6:bD 242=v6 (.iZ ww zB):=rfl
theorem Y7:bD 243=v6 (.code aeR):=rfl
theorem Y8:bD 252=v6 (.code aeS):=rfl
theorem Y9:bD 262=v6 (.code aeT):=rfl
theorem Y':bD 263=v6 (.code aeU):=rfl
theorem Za:bD 264=v6 (.code aeV):=rfl
theorem Zb:bD 265=v6 (.code aeW):=rfl
theorem Zc:bD 266=v6 (.code aeX):=rfl
theorem Zd:bD 267=v6 (.code WX):=rfl
theorem Ze:bD 268=v6 (.code WZ):=rfl
theorem Zf:bD 269=v6 (.code aeY):=rfl
theorem Zg:bD 270=v6 (.code aeZ):=rfl
theorem Zh:bD 271=v6 (.code ae0):=rfl
theorem Zi:bD 272=v6 (.code ae1):=rfl
theorem Zj:bD 273=v6 (.code ae2):=rfl
theorem Zk:bD 274=v6 (.code ae3):=rfl
theorem Iv:bD 275=v6 (.code PS):=rfl
theorem N5:bD 276=v6 (.code ae4):=rfl
theorem Zl:bD 282=v6 (.code ae5):=rfl
theorem Zm:bD 292=v6 (.code ae6):=rfl
theorem N6:bD 293=v6 (.code Xf):=rfl
theorem Zn:bD 294=v6 (.code ae7):=rfl
theorem N7:bD 295=v6 (.code Xi):=rfl
theorem Zo:bD 296=v6 (.code Xk):=rfl
theorem Zp:bD 297=v6 (.code ae8):=rfl
theorem N8:bD 298=v6 (.code Sn):=rfl
theorem Zq:bD 299=v6 (.code ae9):=rfl
theorem N9:bD 300=v6 (.code ae'):=rfl
theorem Zr:bD 302=v6 (.code afa):=rfl
theorem Zs:bD 304=v6 (.code afb):=rfl
theorem Zt:bD 305=v6 (.code afc):=rfl
theorem Zu:bD 306=v6 (.iZ ww (fk 1)):=rfl
end Go.Proofs.YthljmpcakagceaaGreat
