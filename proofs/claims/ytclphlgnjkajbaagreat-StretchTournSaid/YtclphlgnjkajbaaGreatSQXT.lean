/- The table of the seat's functions. Printed by a program. -/
import Derived.Test.YtclphlgnjkajbaaGreatSQX1
import Derived.Test.YtclphlgnjkajbaaGreatSQIN
import Derived.Test.YtclphlgnjkajbaaGreatSQIO
import Derived.Test.YtclphlgnjkajbaaGreatSQIC
import Derived.Test.YtclphlgnjkajbaaGreatChecked
open Option renaming some->v6
open Bool renaming false->ww
set_option maxRecDepth 100000
namespace Go.Proofs.YtclphlgnjkajbaaGreat
open Go.Vm
theorem kT:Go.Proofs.Tryz.prog.follows .mixedOrders=true:=Go.Proofs.Tryz.checked.mixed
theorem ac7:rZ Go.Proofs.Tryz.prog 34 (.jD ww (fx 1)):=⟨rfl,mn kT (zero:=[.int .i64 0]) (by decide+kernel)⟩
theorem ac8:rZ Go.Proofs.Tryz.prog 78 (.jD ww (fx 3)):=⟨rfl,mn kT (zero:=[.int .i64 0,.int .i64 0,.int .i64 0]) (by decide+kernel)⟩
theorem ac9:rZ Go.Proofs.Tryz.prog 84 (.FW (Ih Mk)):=ac5
theorem ac':rZ Go.Proofs.Tryz.prog 91 (.FW (HF 3)):=ac3
theorem WX:rZ Go.Proofs.Tryz.prog 179 (.FW HD):=ac6
theorem WY:rZ Go.Proofs.Tryz.prog 253 (.jD ww (fx 3)):=⟨rfl,mn kT (zero:=[.int .i64 0,.int .i64 0,.int .i64 0]) (by decide+kernel)⟩
theorem WZ:rZ Go.Proofs.Tryz.prog 254 (.jD ww (fx 3)):=⟨rfl,mn kT (zero:=[.int .i64 0,.int .i64 0,.int .i64 0]) (by decide+kernel)⟩
theorem W0:rZ Go.Proofs.Tryz.prog 255 (.jD ww (fx 5)):=⟨rfl,mn kT (zero:=[.int .i64 0,.int .i64 0,.int .i64 0,.int .i64 0,.int .i64 0]) (by decide+kernel)⟩
theorem W3:rZ Go.Proofs.Tryz.prog 256 (.jD ww (fx 1)):=⟨rfl,mn kT (zero:=[.bool ww]) (by decide+kernel)⟩
theorem W4:rZ Go.Proofs.Tryz.prog 412 (.jD ww zn):=⟨rfl,L6 Go.Proofs.Tryz.func412 (by kernel_rfl) (by kernel_rfl) (by kernel_rfl) (by kernel_rfl)⟩
theorem W5:rZ Go.Proofs.Tryz.prog 418 (.jD ww (fx 1)):=⟨rfl,mn kT (zero:=[.int .i64 0]) (by decide+kernel)⟩
noncomputable def agx:TT:= .node 179 (.node 87 (.node 35 (.node 24 (.node 11 (.node 9 (.node 8 (.leaf 3 (.code x3)) (.leaf 8 (.code x8))) (.node 10 (.leaf 9 (.code x9)) (.leaf 10 (.code x10)))) (.node 13 (.node 12 (.leaf 11 (.code x11)) (.leaf 12 (.code x12))) (.node 21 (.leaf 13 (.code x13)) (.node 22 (.leaf 21 (.code x21)) (.leaf 22 (.code x22)))))) (.node 30 (.node 28 (.node 27 (.leaf 24 (.code x24)) (.leaf 27 (.code x27))) (.node 29 (.leaf 28 (.code x28)) (.leaf 29 (.code x29)))) (.node 32 (.node 31 (.leaf 30 (.code x30)) (.leaf 31 (.code x31))) (.node 33 (.leaf 32 (.code x32)) (.node 34 (.leaf 33 (.code x33)) (.leaf 34 (.jD ww (fx 1)))))))) (.node 77 (.node 39 (.node 37 (.node 36 (.leaf 35 (.code x35)) (.leaf 36 (.code x36))) (.node 38 (.leaf 37 (.code x37)) (.leaf 38 (.code x38)))) (.node 58 (.node 40 (.leaf 39 (.code x39)) (.leaf 40 (.code x40))) (.node 70 (.leaf 58 (.code x58)) (.node 76 (.leaf 70 (.code x70)) (.leaf 76 (.code x76)))))) (.node 82 (.node 79 (.node 78 (.leaf 77 (.code x77)) (.leaf 78 (.jD ww (fx 3)))) (.node 80 (.leaf 79 (.code x79)) (.node 81 (.leaf 80 (.code x80)) (.leaf 81 (.code x81))))) (.node 84 (.node 83 (.leaf 82 (.code x82)) (.leaf 83 (.code x83))) (.node 85 (.leaf 84 (.FW (Ih Mk))) (.node 86 (.leaf 85 (.code x85)) (.leaf 86 (.code x86)))))))) (.node 156 (.node 96 (.node 91 (.node 89 (.node 88 (.leaf 87 (.code x87)) (.leaf 88 (.code x88))) (.node 90 (.leaf 89 (.code x89)) (.leaf 90 (.code x90)))) (.node 93 (.node 92 (.leaf 91 (.FW (HF 3))) (.leaf 92 (.code x92))) (.node 94 (.leaf 93 (.code x93)) (.node 95 (.leaf 94 (.code x94)) (.leaf 95 (.code x95)))))) (.node 151 (.node 141 (.node 97 (.leaf 96 (.code x96)) (.leaf 97 (.code Vb))) (.node 142 (.leaf 141 (.code abD)) (.node 143 (.leaf 142 (.code abE)) (.leaf 143 (.code abF))))) (.node 153 (.node 152 (.leaf 151 (.code abG)) (.leaf 152 (.code Vg))) (.node 154 (.leaf 153 (.code abH)) (.node 155 (.leaf 154 (.code abI)) (.leaf 155 (.code abJ))))))) (.node 167 (.node 160 (.node 158 (.node 157 (.leaf 156 (.code abK)) (.leaf 157 (.code abL))) (.node 159 (.leaf 158 (.code abM)) (.leaf 159 (.code abN)))) (.node 162 (.node 161 (.leaf 160 (.code Sc)) (.leaf 161 (.code PI))) (.node 163 (.leaf 162 (.code abO)) (.node 166 (.leaf 163 (.code abP)) (.leaf 166 (.code Vu)))))) (.node 174 (.node 169 (.node 168 (.leaf 167 (.code abQ)) (.leaf 168 (.code abR))) (.node 170 (.leaf 169 (.code abS)) (.node 171 (.leaf 170 (.code abT)) (.leaf 171 (.code abU))))) (.node 176 (.node 175 (.leaf 174 (.code abV)) (.leaf 175 (.code abW))) (.node 177 (.leaf 176 (.code abX)) (.node 178 (.leaf 177 (.code abY)) (.leaf 178 (.code abZ))))))))) (.node 338 (.node 259 (.node 249 (.node 241 (.node 239 (.node 238 (.leaf 179 (.FW HD)) (.leaf 238 (.code ab0))) (.node 240 (.leaf 239 (.code ab1)) (.leaf 240 (.code ab2)))) (.node 244 (.node 243 (.leaf 241 (.code ab3)) (.leaf 243 (.code ab4))) (.node 247 (.leaf 244 (.code ab5)) (.node 248 (.leaf 247 (.code ab6)) (.leaf 248 (.code ab7)))))) (.node 254 (.node 251 (.node 250 (.leaf 249 (.code ab8)) (.leaf 250 (.code ab9))) (.node 252 (.leaf 251 (.code VQ)) (.node 253 (.leaf 252 (.code ab')) (.leaf 253 (.jD ww (fx 3)))))) (.node 256 (.node 255 (.leaf 254 (.jD ww (fx 3))) (.leaf 255 (.jD ww (fx 5)))) (.node 257 (.leaf 256 (.jD ww (fx 1))) (.node 258 (.leaf 257 (.code aca)) (.leaf 258 (.code acb))))))) (.node 280 (.node 263 (.node 261 (.node 260 (.leaf 259 (.code acd)) (.leaf 260 (.code ace))) (.node 262 (.leaf 261 (.code acf)) (.leaf 262 (.code Sd)))) (.node 276 (.node 264 (.leaf 263 (.code MK)) (.leaf 264 (.code PJ))) (.node 277 (.leaf 276 (.code acg)) (.node 279 (.leaf 277 (.code ach)) (.leaf 279 (.code V4)))))) (.node 332 (.node 328 (.node 281 (.leaf 280 (.code aci)) (.leaf 281 (.code acj))) (.node 329 (.leaf 328 (.code ack)) (.node 331 (.leaf 329 (.code acm)) (.leaf 331 (.code acn))))) (.node 334 (.node 333 (.leaf 332 (.code aco)) (.leaf 333 (.code acp))) (.node 336 (.leaf 334 (.code acq)) (.node 337 (.leaf 336 (.code acr)) (.leaf 337 (.code acs)))))))) (.node 385 (.node 353 (.node 342 (.node 340 (.node 339 (.leaf 338 (.code acu)) (.leaf 339 (.code acv))) (.node 341 (.leaf 340 (.code Wh)) (.leaf 341 (.code acw)))) (.node 344 (.node 343 (.leaf 342 (.code acx)) (.leaf 343 (.code acy))) (.node 345 (.leaf 344 (.code acz)) (.node 346 (.leaf 345 (.code acA)) (.leaf 346 (.code acB)))))) (.node 380 (.node 377 (.node 376 (.leaf 353 (.code acC)) (.leaf 376 (.code acD))) (.node 378 (.leaf 377 (.code acE)) (.node 379 (.leaf 378 (.code acF)) (.leaf 379 (.code acG))))) (.node 382 (.node 381 (.leaf 380 (.code acH)) (.leaf 381 (.code acI))) (.node 383 (.leaf 382 (.code acJ)) (.node 384 (.leaf 383 (.code PK)) (.leaf 384 (.code acK))))))) (.node 406 (.node 389 (.node 387 (.node 386 (.leaf 385 (.code acL)) (.leaf 386 (.code WA))) (.node 388 (.leaf 387 (.code acM)) (.leaf 388 (.code WD)))) (.node 391 (.node 390 (.leaf 389 (.code acN)) (.leaf 390 (.code acO))) (.node 404 (.leaf 391 (.code acP)) (.node 405 (.leaf 404 (.code acQ)) (.leaf 405 (.code acR)))))) (.node 411 (.node 408 (.node 407 (.leaf 406 (.code acS)) (.leaf 407 (.code acT))) (.node 409 (.leaf 408 (.code acU)) (.node 410 (.leaf 409 (.code acV)) (.leaf 410 (.code acW))))) (.node 413 (.node 412 (.leaf 411 (.code Se)) (.leaf 412 (.jD ww zn))) (.node 417 (.leaf 413 (.code acX)) (.node 418 (.leaf 417 (.code acY)) (.leaf 418 (.jD ww (fx 1))))))))))
theorem Of:agx.All (rZ Go.Proofs.Tryz.prog):=⟨⟨⟨⟨⟨⟨⟨agl,agm⟩,⟨agn,aaY⟩⟩,⟨⟨aaZ,aa0⟩,⟨aa1,⟨aa2,aa3⟩⟩⟩⟩,⟨⟨⟨aa4,aa5⟩,⟨aa6,aa7⟩⟩,⟨⟨aa8,aa9⟩,⟨aa',⟨aba,ac7⟩⟩⟩⟩⟩,⟨⟨⟨⟨abb,abc⟩,⟨abd,abe⟩⟩,⟨⟨abf,abg⟩,⟨abh,⟨abi,abj⟩⟩⟩⟩,⟨⟨⟨abk,ac8⟩,⟨abl,⟨abm,abn⟩⟩⟩,⟨⟨abo,abp⟩,⟨ac9,⟨abq,abr⟩⟩⟩⟩⟩⟩,⟨⟨⟨⟨⟨abt,abu⟩,⟨abv,abw⟩⟩,⟨⟨ac',abx⟩,⟨aby,⟨abz,abA⟩⟩⟩⟩,⟨⟨⟨abB,abC⟩,⟨Vc,⟨Vd,Ve⟩⟩⟩,⟨⟨Vf,Vh⟩,⟨Vi,⟨Vj,Vk⟩⟩⟩⟩⟩,⟨⟨⟨⟨Vl,Vn⟩,⟨Vo,Vp⟩⟩,⟨⟨Vq,Vr⟩,⟨Vs,⟨Vt,Vv⟩⟩⟩⟩,⟨⟨⟨Vw,Vx⟩,⟨Vy,⟨Vz,VA⟩⟩⟩,⟨⟨VB,VC⟩,⟨VD,⟨VE,VF⟩⟩⟩⟩⟩⟩⟩,⟨⟨⟨⟨⟨⟨WX,VG⟩,⟨VH,VI⟩⟩,⟨⟨VJ,VK⟩,⟨VL,⟨VM,VN⟩⟩⟩⟩,⟨⟨⟨VO,VP⟩,⟨VS,⟨VT,WY⟩⟩⟩,⟨⟨WZ,W0⟩,⟨W3,⟨VU,VV⟩⟩⟩⟩⟩,⟨⟨⟨⟨VW,VX⟩,⟨VY,VZ⟩⟩,⟨⟨V0,V1⟩,⟨V2,⟨V3,V5⟩⟩⟩⟩,⟨⟨⟨V6,V7⟩,⟨V8,⟨V9,V'⟩⟩⟩,⟨⟨Wa,Wb⟩,⟨Wc,⟨Wd,We⟩⟩⟩⟩⟩⟩,⟨⟨⟨⟨⟨Wf,Wg⟩,⟨Wi,Wj⟩⟩,⟨⟨Wk,Wl⟩,⟨Wm,⟨Wn,Wo⟩⟩⟩⟩,⟨⟨⟨Wp,Wq⟩,⟨Wr,⟨Ws,Wt⟩⟩⟩,⟨⟨Wu,Wv⟩,⟨Ww,⟨Wx,Wy⟩⟩⟩⟩⟩,⟨⟨⟨⟨Wz,WB⟩,⟨WC,WE⟩⟩,⟨⟨WG,WH⟩,⟨WI,⟨WJ,WK⟩⟩⟩⟩,⟨⟨⟨WL,WM⟩,⟨WN,⟨WQ,WR⟩⟩⟩,⟨⟨WT,W4⟩,⟨WU,⟨WV,W5⟩⟩⟩⟩⟩⟩⟩⟩
noncomputable def cj:lM:=agx.get
theorem ZO:cj 3=v6 (.code x3):=rfl
theorem agy:cj 8=v6 (.code x8):=rfl
theorem agz:cj 9=v6 (.code x9):=rfl
theorem ada:cj 10=v6 (.code x10):=rfl
theorem adb:cj 11=v6 (.code x11):=rfl
theorem ade:cj 12=v6 (.code x12):=rfl
theorem adf:cj 13=v6 (.code x13):=rfl
theorem adg:cj 21=v6 (.code x21):=rfl
theorem adh:cj 22=v6 (.code x22):=rfl
theorem adi:cj 24=v6 (.code x24):=rfl
theorem Sk:cj 27=v6 (.code x27):=rfl
theorem adj:cj 28=v6 (.code x28):=rfl
theorem adk:cj 29=v6 (.code x29):=rfl
theorem adl:cj 30=v6 (.code x30):=rfl
theorem adm:cj 31=v6 (.code x31):=rfl
theorem adn:cj 32=v6 (.code x32):=rfl
theorem ado:cj 33=v6 (.code x33):=rfl
theorem adp:cj 34=v6 (.jD ww (fx 1)):=rfl
theorem adq:cj 35=v6 (.code x35):=rfl
theorem Sl:cj 36=v6 (.code x36):=rfl
theorem adr:cj 37=v6 (.code x37):=rfl
theorem ads:cj 38=v6 (.code x38):=rfl
theorem Sm:cj 39=v6 (.code x39):=rfl
theorem adt:cj 40=v6 (.code x40):=rfl
theorem adu:cj 58=v6 (.code x58):=rfl
theorem adv:cj 70=v6 (.code x70):=rfl
theorem adw:cj 76=v6 (.code x76):=rfl
theorem adx:cj 77=v6 (.code x77):=rfl
theorem ady:cj 78=v6 (.jD ww (fx 3)):=rfl
theorem adz:cj 79=v6 (.code x79):=rfl
theorem adA:cj 80=v6 (.code x80):=rfl
theorem adB:cj 81=v6 (.code x81):=rfl
theorem adC:cj 82=v6 (.code x82):=rfl
theorem adD:cj 83=v6 (.code x83):=rfl
theorem adE:cj 84=v6 (.FW (Ih Mk)):=rfl
theorem adF:cj 85=v6 (.code x85):=rfl
theorem adG:cj 86=v6 (.code x86):=rfl
theorem adH:cj 87=v6 (.code x87):=rfl
theorem adI:cj 88=v6 (.code x88):=rfl
theorem adJ:cj 89=v6 (.code x89):=rfl
theorem adK:cj 90=v6 (.code x90):=rfl
theorem adL:cj 91=v6 (.FW (HF 3)):=rfl
theorem adM:cj 92=v6 (.code x92):=rfl
theorem adN:cj 93=v6 (.code x93):=rfl
theorem adO:cj 94=v6 (.code x94):=rfl
theorem adP:cj 95=v6 (.code x95):=rfl
theorem adQ:cj 96=v6 (.code x96):=rfl
theorem B6:cj 97=v6 (.code Vb):=rfl
theorem W6:cj 141=v6 (.code abD):=rfl
theorem W7:cj 142=v6 (.code abE):=rfl
theorem W8:cj 143=v6 (.code abF):=rfl
theorem W9:cj 151=v6 (.code abG):=rfl
theorem Og:cj 152=v6 (.code Vg):=rfl
theorem Xa:cj 153=v6 (.code abH):=rfl
theorem Xb:cj 154=v6 (.code abI):=rfl
theorem Xc:cj 155=v6 (.code abJ):=rfl
theorem Oh:cj 156=v6 (.code abK):=rfl
theorem Xd:cj 157=v6 (.code abL):=rfl
theorem Xe:cj 158=v6 (.code abM):=rfl
theorem Xf:cj 159=v6 (.code abN):=rfl
theorem Oi:cj 160=v6 (.code Sc):=rfl
theorem IA:cj 161=v6 (.code PI):=rfl
theorem Xg:cj 162=v6 (.code abO):=rfl
theorem Xh:cj 163=v6 (.code abP):=rfl
theorem Oj:cj 166=v6 (.code Vu):=rfl
theorem IB:cj 167=v6 (.code abQ):=rfl
theorem Xi:cj 168=v6 (.code abR):=rfl
theorem IC:cj 169=v6 (.code abS):=rfl
theorem Xj:cj 170=v6 (.code abT):=rfl
theorem Xk:cj 171=v6 (.code abU):=rfl
theorem Xl:cj 174=v6 (.code abV):=rfl
theorem Xm:cj 175=v6 (.code abW):=rfl
theorem Xn:cj 176=v6 (.code abX):=rfl
theorem Xo:cj 177=v6 (.code abY):=rfl
theorem Xp:cj 178=v6 (.code abZ):=rfl
theorem Xq:cj 179=v6 (.FW HD):=rfl
theorem Xr:cj 238=v6 (.code ab0):=rfl
theorem Xs:cj 239=v6 (.code ab1):=rfl
theorem Xt:cj 240=v6 (.code ab2):=rfl
theorem Xu:cj 241=v6 (.code ab3):=rfl
theorem Ol:cj 243=v6 (.code ab4):=rfl
theorem Xv:cj 244=v6 (.code ab5):=rfl
theorem Xw:cj 247=v6 (.code ab6):=rfl
theorem Xx:cj 248=v6 (.code ab7):=rfl
theorem Xy:cj 249=v6 (.code ab8):=rfl
theorem Xz:cj 250=v6 (.code ab9):=rfl
theorem Om:cj 251=v6 (.code VQ):=rfl
theorem XA:cj 252=v6 (.code ab'):=rfl
theorem XB:cj 253=v6 (.jD ww (fx 3)):=rfl
theorem XC:cj 254=v6 (.jD ww (fx 3)):=rfl
theorem XD:cj 255=v6 (.jD ww (fx 5)):=rfl
theorem XE:cj 256=v6 (.jD ww (fx 1)):=rfl
theorem XF:cj 257=v6 (.code aca):=rfl
theorem XG:cj 258=v6 (.code acb):=rfl
theorem XH:cj 259=v6 (.code acd):=rfl
theorem XI:cj 260=v6 (.code ace):=rfl
theorem XJ:cj 261=v6 (.code acf):=rfl
theorem On:cj 262=v6 (.code Sd):=rfl
theorem Dx:cj 263=v6 (.code MK):=rfl
theorem ID:cj 264=v6 (.code PJ):=rfl
theorem IE:cj 276=v6 (.code acg):=rfl
theorem XK:cj 277=v6 (.code ach):=rfl
theorem XL:cj 279=v6 (.code V4):=rfl
theorem XM:cj 280=v6 (.code aci):=rfl
theorem XN:cj 281=v6 (.code acj):=rfl
theorem XO:cj 328=v6 (.code ack):=rfl
theorem XP:cj 329=v6 (.code acm):=rfl
theorem XQ:cj 331=v6 (.code acn):=rfl
theorem XS:cj 332=v6 (.code aco):=rfl
theorem XT:cj 333=v6 (.code acp):=rfl
theorem XU:cj 334=v6 (.code acq):=rfl
theorem XV:cj 336=v6 (.code acr):=rfl
theorem XW:cj 337=v6 (.code acs):=rfl
theorem XX:cj 338=v6 (.code acu):=rfl
theorem XY:cj 339=v6 (.code acv):=rfl
theorem XZ:cj 340=v6 (.code Wh):=rfl
theorem X0:cj 341=v6 (.code acw):=rfl
theorem X1:cj 342=v6 (.code acx):=rfl
theorem X2:cj 343=v6 (.code acy):=rfl
theorem X3:cj 344=v6 (.code acz):=rfl
theorem X4:cj 345=v6 (.code acA):=rfl
theorem X5:cj 346=v6 (.code acB):=rfl
theorem X6:cj 353=v6 (.code acC):=rfl
theorem X7:cj 376=v6 (.code acD):=rfl
theorem X8:cj 377=v6 (.code acE):=rfl
theorem X9:cj 378=v6 (.code acF):=rfl
theorem X':cj 379=v6 (.code acG):=rfl
theorem Ya:cj 380=v6 (.code acH):=rfl
theorem Yb:cj 381=v6 (.code acI):=rfl
theorem Yc:cj 382=v6 (.code acJ):=rfl
theorem IF:cj 383=v6 (.code PK):=rfl
theorem Oo:cj 384=v6 (.code acK):=rfl
theorem Yd:cj 385=v6 (.code acL):=rfl
theorem Oq:cj 386=v6 (.code WA):=rfl
theorem Ye:cj 387=v6 (.code acM):=rfl
theorem Ot:cj 388=v6 (.code WD):=rfl
theorem Yf:cj 389=v6 (.code acN):=rfl
theorem Yg:cj 390=v6 (.code acO):=rfl
theorem Yh:cj 391=v6 (.code acP):=rfl
theorem Yi:cj 404=v6 (.code acQ):=rfl
theorem Yj:cj 405=v6 (.code acR):=rfl
theorem Yk:cj 406=v6 (.code acS):=rfl
theorem Yl:cj 407=v6 (.code acT):=rfl
theorem Ou:cj 408=v6 (.code acU):=rfl
theorem Ym:cj 409=v6 (.code acV):=rfl
theorem Yn:cj 410=v6 (.code acW):=rfl
theorem Ov:cj 411=v6 (.code Se):=rfl
theorem Yo:cj 412=v6 (.jD ww zn):=rfl
theorem Yp:cj 413=v6 (.code acX):=rfl
theorem Yq:cj 417=v6 (.code acY):=rfl
theorem Yr:cj 418=v6 (.jD ww (fx 1)):=rfl
end Go.Proofs.YtclphlgnjkajbaaGreat
