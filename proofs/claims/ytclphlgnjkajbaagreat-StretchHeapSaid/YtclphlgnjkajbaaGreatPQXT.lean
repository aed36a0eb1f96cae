/- The table of the seat's functions. Printed by a program. -/
import Derived.Test.YtclphlgnjkajbaaGreatPQX1
import Derived.Test.YtclphlgnjkajbaaGreatChecked
open Option renaming some->v4
open Bool renaming false->v6
set_option maxRecDepth 100000
namespace Go.Proofs.YtclphlgnjkajbaaGreat
open Go.Vm
theorem j9:Go.Proofs.Tryz.prog.follows .mixedOrders=true:=Go.Proofs.Tryz.checked.mixed
theorem acR:vS Go.Proofs.Tryz.prog 34 (.jf v6 (eJ 1)):=⟨rfl,lz j9 (zero:=[.int .i64 0]) (by decide+kernel)⟩
theorem acS:vS Go.Proofs.Tryz.prog 78 (.jf v6 (eJ 3)):=⟨rfl,lz j9 (zero:=[.int .i64 0,.int .i64 0,.int .i64 0]) (by decide+kernel)⟩
theorem U9:vS Go.Proofs.Tryz.prog 253 (.jf v6 (eJ 3)):=⟨rfl,lz j9 (zero:=[.int .i64 0,.int .i64 0,.int .i64 0]) (by decide+kernel)⟩
theorem U':vS Go.Proofs.Tryz.prog 254 (.jf v6 (eJ 3)):=⟨rfl,lz j9 (zero:=[.int .i64 0,.int .i64 0,.int .i64 0]) (by decide+kernel)⟩
theorem Va:vS Go.Proofs.Tryz.prog 255 (.jf v6 (eJ 5)):=⟨rfl,lz j9 (zero:=[.int .i64 0,.int .i64 0,.int .i64 0,.int .i64 0,.int .i64 0]) (by decide+kernel)⟩
theorem Vb:vS Go.Proofs.Tryz.prog 256 (.jf v6 (eJ 1)):=⟨rfl,lz j9 (zero:=[.bool v6]) (by decide+kernel)⟩
theorem Vc:vS Go.Proofs.Tryz.prog 412 (.jf v6 yf):=⟨rfl,J7 Go.Proofs.Tryz.func412 (by kernel_rfl) (by kernel_rfl) (by kernel_rfl) (by kernel_rfl)⟩
theorem Vd:vS Go.Proofs.Tryz.prog 418 (.jf v6 (eJ 1)):=⟨rfl,lz j9 (zero:=[.int .i64 0]) (by decide+kernel)⟩
noncomputable def ago:TT:= .node 238 (.node 112 (.node 51 (.node 25 (.node 16 (.node 9 (.node 8 (.leaf 6 (.code x6)) (.leaf 8 (.code x8))) (.node 14 (.leaf 9 (.code x9)) (.node 15 (.leaf 14 (.code x14)) (.leaf 15 (.code x15))))) (.node 21 (.node 18 (.leaf 16 (.code x16)) (.node 20 (.leaf 18 (.code x18)) (.leaf 20 (.code x20)))) (.node 22 (.leaf 21 (.code x21)) (.node 24 (.leaf 22 (.code x22)) (.leaf 24 (.code x24)))))) (.node 41 (.node 28 (.node 26 (.leaf 25 (.code x25)) (.node 27 (.leaf 26 (.code x26)) (.leaf 27 (.code x27)))) (.node 34 (.leaf 28 (.code x28)) (.node 35 (.leaf 34 (.jf v6 (eJ 1))) (.leaf 35 (.code x35))))) (.node 44 (.node 42 (.leaf 41 (.code x41)) (.node 43 (.leaf 42 (.code x42)) (.leaf 43 (.code x43)))) (.node 49 (.leaf 44 (.code x44)) (.node 50 (.leaf 49 (.code x49)) (.leaf 50 (.code x50))))))) (.node 72 (.node 58 (.node 55 (.node 52 (.leaf 51 (.code x51)) (.node 54 (.leaf 52 (.code x52)) (.leaf 54 (.code x54)))) (.node 56 (.leaf 55 (.code x55)) (.node 57 (.leaf 56 (.code x56)) (.leaf 57 (.code x57))))) (.node 69 (.node 63 (.leaf 58 (.code x58)) (.node 65 (.leaf 63 (.code x63)) (.leaf 65 (.code x65)))) (.node 70 (.leaf 69 (.code x69)) (.node 71 (.leaf 70 (.code x70)) (.leaf 71 (.code x71)))))) (.node 95 (.node 81 (.node 76 (.leaf 72 (.code x72)) (.node 78 (.leaf 76 (.code x76)) (.leaf 78 (.jf v6 (eJ 3))))) (.node 89 (.leaf 81 (.code x81)) (.node 90 (.leaf 89 (.code x89)) (.leaf 90 (.code x90))))) (.node 99 (.node 97 (.leaf 95 (.code x95)) (.node 98 (.leaf 97 (.code x97)) (.leaf 98 (.code x98)))) (.node 100 (.leaf 99 (.code x99)) (.node 104 (.leaf 100 (.code aaJ)) (.leaf 104 (.code aaK)))))))) (.node 167 (.node 141 (.node 123 (.node 114 (.node 113 (.leaf 112 (.code aaL)) (.leaf 113 (.code aaM))) (.node 115 (.leaf 114 (.code aaN)) (.node 116 (.leaf 115 (.code aaO)) (.leaf 116 (.code aaP))))) (.node 126 (.node 124 (.leaf 123 (.code aaQ)) (.node 125 (.leaf 124 (.code aaR)) (.leaf 125 (.code aaS)))) (.node 137 (.leaf 126 (.code aaT)) (.node 138 (.leaf 137 (.code aaU)) (.leaf 138 (.code aaV)))))) (.node 153 (.node 144 (.node 142 (.leaf 141 (.code aaW)) (.node 143 (.leaf 142 (.code aaX)) (.leaf 143 (.code aaY)))) (.node 145 (.leaf 144 (.code aaZ)) (.node 146 (.leaf 145 (.code aa0)) (.leaf 146 (.code aa1))))) (.node 157 (.node 154 (.leaf 153 (.code aa2)) (.node 155 (.leaf 154 (.code aa3)) (.leaf 155 (.code aa4)))) (.node 158 (.leaf 157 (.code aa5)) (.node 159 (.leaf 158 (.code aa6)) (.leaf 159 (.code aa7))))))) (.node 214 (.node 180 (.node 170 (.node 168 (.leaf 167 (.code aa8)) (.node 169 (.leaf 168 (.code aa9)) (.leaf 169 (.code aa')))) (.node 171 (.leaf 170 (.code aba)) (.node 175 (.leaf 171 (.code abb)) (.leaf 175 (.code abc))))) (.node 211 (.node 181 (.leaf 180 (.code abd)) (.node 210 (.leaf 181 (.code abe)) (.leaf 210 (.code abf)))) (.node 212 (.leaf 211 (.code abg)) (.node 213 (.leaf 212 (.code abh)) (.leaf 213 (.code abi)))))) (.node 224 (.node 221 (.node 215 (.leaf 214 (.code abj)) (.node 220 (.leaf 215 (.code abk)) (.leaf 220 (.code abl)))) (.node 222 (.leaf 221 (.code abm)) (.node 223 (.leaf 222 (.code abn)) (.leaf 223 (.code abo))))) (.node 233 (.node 225 (.leaf 224 (.code abp)) (.node 226 (.leaf 225 (.code abq)) (.leaf 226 (.code abr)))) (.node 234 (.leaf 233 (.code abt)) (.node 235 (.leaf 234 (.code abu)) (.leaf 235 (.code abv))))))))) (.node 340 (.node 276 (.node 251 (.node 243 (.node 240 (.node 239 (.leaf 238 (.code abw)) (.leaf 239 (.code abx))) (.node 241 (.leaf 240 (.code aby)) (.node 242 (.leaf 241 (.code abz)) (.leaf 242 (.code abA))))) (.node 248 (.node 244 (.leaf 243 (.code abB)) (.node 247 (.leaf 244 (.code abC)) (.leaf 247 (.code abD)))) (.node 249 (.leaf 248 (.code abE)) (.node 250 (.leaf 249 (.code abF)) (.leaf 250 (.code abG)))))) (.node 257 (.node 254 (.node 252 (.leaf 251 (.code TN)) (.node 253 (.leaf 252 (.code abH)) (.leaf 253 (.jf v6 (eJ 3))))) (.node 255 (.leaf 254 (.jf v6 (eJ 3))) (.node 256 (.leaf 255 (.jf v6 (eJ 5))) (.leaf 256 (.jf v6 (eJ 1)))))) (.node 260 (.node 258 (.leaf 257 (.code abI)) (.node 259 (.leaf 258 (.code abJ)) (.leaf 259 (.code abK)))) (.node 261 (.leaf 260 (.code abL)) (.node 263 (.leaf 261 (.code abM)) (.leaf 263 (.code TW))))))) (.node 324 (.node 318 (.node 283 (.node 277 (.leaf 276 (.code abN)) (.node 281 (.leaf 277 (.code abO)) (.leaf 281 (.code abP)))) (.node 309 (.leaf 283 (.code abQ)) (.node 310 (.leaf 309 (.code abR)) (.leaf 310 (.code abS))))) (.node 321 (.node 319 (.leaf 318 (.code abT)) (.node 320 (.leaf 319 (.code abU)) (.leaf 320 (.code abV)))) (.node 322 (.leaf 321 (.code abW)) (.node 323 (.leaf 322 (.code abX)) (.leaf 323 (.code abY)))))) (.node 333 (.node 330 (.node 328 (.leaf 324 (.code abZ)) (.node 329 (.leaf 328 (.code ab0)) (.leaf 329 (.code ab1)))) (.node 331 (.leaf 330 (.code ab2)) (.node 332 (.leaf 331 (.code ab3)) (.leaf 332 (.code ab4))))) (.node 337 (.node 334 (.leaf 333 (.code ab5)) (.node 336 (.leaf 334 (.code ab6)) (.leaf 336 (.code ab7)))) (.node 338 (.leaf 337 (.code ab8)) (.node 339 (.leaf 338 (.code ab9)) (.leaf 339 (.code ab')))))))) (.node 388 (.node 376 (.node 345 (.node 342 (.node 341 (.leaf 340 (.code Ul)) (.leaf 341 (.code aca))) (.node 343 (.leaf 342 (.code acb)) (.node 344 (.leaf 343 (.code acd)) (.leaf 344 (.code ace))))) (.node 365 (.node 346 (.leaf 345 (.code acf)) (.node 361 (.leaf 346 (.code acg)) (.leaf 361 (.code ach)))) (.node 373 (.leaf 365 (.code aci)) (.node 374 (.leaf 373 (.code acj)) (.leaf 374 (.code ack)))))) (.node 382 (.node 379 (.node 377 (.leaf 376 (.code acm)) (.node 378 (.leaf 377 (.code acn)) (.leaf 378 (.code aco)))) (.node 380 (.leaf 379 (.code acp)) (.node 381 (.leaf 380 (.code acq)) (.leaf 381 (.code acr))))) (.node 385 (.node 383 (.leaf 382 (.code acs)) (.node 384 (.leaf 383 (.code NV)) (.leaf 384 (.code acu)))) (.node 386 (.leaf 385 (.code acv)) (.node 387 (.leaf 386 (.code UI)) (.leaf 387 (.code acw))))))) (.node 407 (.node 395 (.node 391 (.node 389 (.leaf 388 (.code UL)) (.node 390 (.leaf 389 (.code acx)) (.leaf 390 (.code acy)))) (.node 393 (.leaf 391 (.code acz)) (.node 394 (.leaf 393 (.code acA)) (.leaf 394 (.code acB))))) (.node 404 (.node 402 (.leaf 395 (.code acC)) (.node 403 (.leaf 402 (.code acD)) (.leaf 403 (.code acE)))) (.node 405 (.leaf 404 (.code acF)) (.node 406 (.leaf 405 (.code acG)) (.leaf 406 (.code acH)))))) (.node 413 (.node 410 (.node 408 (.leaf 407 (.code acI)) (.node 409 (.leaf 408 (.code acJ)) (.leaf 409 (.code acK)))) (.node 411 (.leaf 410 (.code acL)) (.node 412 (.leaf 411 (.code Qf)) (.leaf 412 (.jf v6 yf))))) (.node 416 (.node 414 (.leaf 413 (.code acM)) (.node 415 (.leaf 414 (.code acN)) (.leaf 415 (.code acO)))) (.node 417 (.leaf 416 (.code acP)) (.node 418 (.leaf 417 (.code acQ)) (.leaf 418 (.jf v6 (eJ 1))))))))))
theorem Mk:ago.All (vS Go.Proofs.Tryz.prog):=⟨⟨⟨⟨⟨⟨⟨agk,agl⟩,⟨agm,⟨Z6,Z7⟩⟩⟩,⟨⟨Z8,⟨Z9,Z'⟩⟩,⟨aaa,⟨aab,aac⟩⟩⟩⟩,⟨⟨⟨aad,⟨aae,aaf⟩⟩,⟨aag,⟨acR,aah⟩⟩⟩,⟨⟨aai,⟨aaj,aak⟩⟩,⟨aal,⟨aam,aan⟩⟩⟩⟩⟩,⟨⟨⟨⟨aao,⟨aap,aaq⟩⟩,⟨aar,⟨aas,aat⟩⟩⟩,⟨⟨aau,⟨aav,aaw⟩⟩,⟨aax,⟨aay,aaz⟩⟩⟩⟩,⟨⟨⟨aaA,⟨aaB,acS⟩⟩,⟨aaC,⟨aaD,aaE⟩⟩⟩,⟨⟨aaF,⟨aaG,aaH⟩⟩,⟨aaI,⟨SM,SN⟩⟩⟩⟩⟩⟩,⟨⟨⟨⟨⟨SO,SP⟩,⟨SQ,⟨SS,SU⟩⟩⟩,⟨⟨SW,⟨SX,SY⟩⟩,⟨SZ,⟨S0,S1⟩⟩⟩⟩,⟨⟨⟨S2,⟨S3,S4⟩⟩,⟨S5,⟨S6,S7⟩⟩⟩,⟨⟨S8,⟨S9,S'⟩⟩,⟨Ta,⟨Tb,Tc⟩⟩⟩⟩⟩,⟨⟨⟨⟨Td,⟨Te,Tf⟩⟩,⟨Tg,⟨Th,Ti⟩⟩⟩,⟨⟨Tj,⟨Tk,Tl⟩⟩,⟨Tm,⟨Tn,To⟩⟩⟩⟩,⟨⟨⟨Tp,⟨Tq,Ts⟩⟩,⟨Tt,⟨Tu,Tv⟩⟩⟩,⟨⟨Tw,⟨Tx,Ty⟩⟩,⟨Tz,⟨TA,TB⟩⟩⟩⟩⟩⟩⟩,⟨⟨⟨⟨⟨⟨TC,TD⟩,⟨TE,⟨TF,TG⟩⟩⟩,⟨⟨TH,⟨TI,TJ⟩⟩,⟨TK,⟨TL,TM⟩⟩⟩⟩,⟨⟨⟨TO,⟨TP,U9⟩⟩,⟨U',⟨Va,Vb⟩⟩⟩,⟨⟨TQ,⟨TR,TS⟩⟩,⟨TU,⟨TV,TX⟩⟩⟩⟩⟩,⟨⟨⟨⟨TY,⟨TZ,T0⟩⟩,⟨T1,⟨T2,T3⟩⟩⟩,⟨⟨T4,⟨T5,T6⟩⟩,⟨T7,⟨T8,T9⟩⟩⟩⟩,⟨⟨⟨T',⟨Ua,Ub⟩⟩,⟨Uc,⟨Ud,Ue⟩⟩⟩,⟨⟨Uf,⟨Ug,Uh⟩⟩,⟨Ui,⟨Uj,Uk⟩⟩⟩⟩⟩⟩,⟨⟨⟨⟨⟨Um,Un⟩,⟨Uo,⟨Uq,Ur⟩⟩⟩,⟨⟨Us,⟨Ut,Uu⟩⟩,⟨Uv,⟨Uw,Ux⟩⟩⟩⟩,⟨⟨⟨Uy,⟨Uz,UA⟩⟩,⟨UB,⟨UC,UD⟩⟩⟩,⟨⟨UE,⟨UF,UG⟩⟩,⟨UH,⟨UJ,UK⟩⟩⟩⟩⟩,⟨⟨⟨⟨UM,⟨UN,UO⟩⟩,⟨UP,⟨UQ,UR⟩⟩⟩,⟨⟨US,⟨UT,UU⟩⟩,⟨UW,⟨UX,UY⟩⟩⟩⟩,⟨⟨⟨UZ,⟨U0,U1⟩⟩,⟨U2,⟨U3,Vc⟩⟩⟩,⟨⟨U4,⟨U5,U6⟩⟩,⟨U7,⟨U8,Vd⟩⟩⟩⟩⟩⟩⟩⟩
noncomputable def bH:kW:=ago.get
theorem YZ:bH 6=v4 (.code x6):=rfl
theorem agp:bH 8=v4 (.code x8):=rfl
theorem agq:bH 9=v4 (.code x9):=rfl
theorem acT:bH 14=v4 (.code x14):=rfl
theorem acU:bH 15=v4 (.code x15):=rfl
theorem acV:bH 16=v4 (.code x16):=rfl
theorem acW:bH 18=v4 (.code x18):=rfl
theorem acX:bH 20=v4 (.code x20):=rfl
theorem acY:bH 21=v4 (.code x21):=rfl
theorem acZ:bH 22=v4 (.code x22):=rfl
theorem ac0:bH 24=v4 (.code x24):=rfl
theorem ac1:bH 25=v4 (.code x25):=rfl
theorem ac2:bH 26=v4 (.code x26):=rfl
theorem Qg:bH 27=v4 (.code x27):=rfl
theorem ac3:bH 28=v4 (.code x28):=rfl
theorem ac4:bH 34=v4 (.jf v6 (eJ 1)):=rfl
theorem ac5:bH 35=v4 (.code x35):=rfl
theorem ac6:bH 41=v4 (.code x41):=rfl
theorem ac7:bH 42=v4 (.code x42):=rfl
theorem ac8:bH 43=v4 (.code x43):=rfl
theorem ac9:bH 44=v4 (.code x44):=rfl
theorem ac':bH 49=v4 (.code x49):=rfl
theorem ada:bH 50=v4 (.code x50):=rfl
theorem adb:bH 51=v4 (.code x51):=rfl
theorem ade:bH 52=v4 (.code x52):=rfl
theorem adf:bH 54=v4 (.code x54):=rfl
theorem adg:bH 55=v4 (.code x55):=rfl
theorem adh:bH 56=v4 (.code x56):=rfl
theorem adi:bH 57=v4 (.code x57):=rfl
theorem adj:bH 58=v4 (.code x58):=rfl
theorem adk:bH 63=v4 (.code x63):=rfl
theorem adl:bH 65=v4 (.code x65):=rfl
theorem adm:bH 69=v4 (.code x69):=rfl
theorem adn:bH 70=v4 (.code x70):=rfl
theorem ado:bH 71=v4 (.code x71):=rfl
theorem adp:bH 72=v4 (.code x72):=rfl
theorem adq:bH 76=v4 (.code x76):=rfl
theorem adr:bH 78=v4 (.jf v6 (eJ 3)):=rfl
theorem ads:bH 81=v4 (.code x81):=rfl
theorem adt:bH 89=v4 (.code x89):=rfl
theorem adu:bH 90=v4 (.code x90):=rfl
theorem adv:bH 95=v4 (.code x95):=rfl
theorem adw:bH 97=v4 (.code x97):=rfl
theorem adx:bH 98=v4 (.code x98):=rfl
theorem ady:bH 99=v4 (.code x99):=rfl
theorem Ve:bH 100=v4 (.code aaJ):=rfl
theorem Vf:bH 104=v4 (.code aaK):=rfl
theorem Vg:bH 112=v4 (.code aaL):=rfl
theorem Vh:bH 113=v4 (.code aaM):=rfl
theorem Vi:bH 114=v4 (.code aaN):=rfl
theorem Vj:bH 115=v4 (.code aaO):=rfl
theorem Vk:bH 116=v4 (.code aaP):=rfl
theorem Vl:bH 123=v4 (.code aaQ):=rfl
theorem Vn:bH 124=v4 (.code aaR):=rfl
theorem Vo:bH 125=v4 (.code aaS):=rfl
theorem Ml:bH 126=v4 (.code aaT):=rfl
theorem Vp:bH 137=v4 (.code aaU):=rfl
theorem Vq:bH 138=v4 (.code aaV):=rfl
theorem Vr:bH 141=v4 (.code aaW):=rfl
theorem Vs:bH 142=v4 (.code aaX):=rfl
theorem Vt:bH 143=v4 (.code aaY):=rfl
theorem Vu:bH 144=v4 (.code aaZ):=rfl
theorem Vv:bH 145=v4 (.code aa0):=rfl
theorem Vw:bH 146=v4 (.code aa1):=rfl
theorem Vx:bH 153=v4 (.code aa2):=rfl
theorem Vy:bH 154=v4 (.code aa3):=rfl
theorem Vz:bH 155=v4 (.code aa4):=rfl
theorem VA:bH 157=v4 (.code aa5):=rfl
theorem VB:bH 158=v4 (.code aa6):=rfl
theorem VC:bH 159=v4 (.code aa7):=rfl
theorem Mm:bH 167=v4 (.code aa8):=rfl
theorem VD:bH 168=v4 (.code aa9):=rfl
theorem Mn:bH 169=v4 (.code aa'):=rfl
theorem VE:bH 170=v4 (.code aba):=rfl
theorem VF:bH 171=v4 (.code abb):=rfl
theorem VG:bH 175=v4 (.code abc):=rfl
theorem VH:bH 180=v4 (.code abd):=rfl
theorem VI:bH 181=v4 (.code abe):=rfl
theorem VJ:bH 210=v4 (.code abf):=rfl
theorem VK:bH 211=v4 (.code abg):=rfl
theorem VL:bH 212=v4 (.code abh):=rfl
theorem VM:bH 213=v4 (.code abi):=rfl
theorem VN:bH 214=v4 (.code abj):=rfl
theorem VO:bH 215=v4 (.code abk):=rfl
theorem VP:bH 220=v4 (.code abl):=rfl
theorem VQ:bH 221=v4 (.code abm):=rfl
theorem VS:bH 222=v4 (.code abn):=rfl
theorem VT:bH 223=v4 (.code abo):=rfl
theorem VU:bH 224=v4 (.code abp):=rfl
theorem VV:bH 225=v4 (.code abq):=rfl
theorem VW:bH 226=v4 (.code abr):=rfl
theorem VX:bH 233=v4 (.code abt):=rfl
theorem VY:bH 234=v4 (.code abu):=rfl
theorem VZ:bH 235=v4 (.code abv):=rfl
theorem V0:bH 238=v4 (.code abw):=rfl
theorem V1:bH 239=v4 (.code abx):=rfl
theorem V2:bH 240=v4 (.code aby):=rfl
theorem V3:bH 241=v4 (.code abz):=rfl
theorem V4:bH 242=v4 (.code abA):=rfl
theorem Mo:bH 243=v4 (.code abB):=rfl
theorem V5:bH 244=v4 (.code abC):=rfl
theorem V6:bH 247=v4 (.code abD):=rfl
theorem V7:bH 248=v4 (.code abE):=rfl
theorem V8:bH 249=v4 (.code abF):=rfl
theorem V9:bH 250=v4 (.code abG):=rfl
theorem Mp:bH 251=v4 (.code TN):=rfl
theorem V':bH 252=v4 (.code abH):=rfl
theorem Wa:bH 253=v4 (.jf v6 (eJ 3)):=rfl
theorem Wb:bH 254=v4 (.jf v6 (eJ 3)):=rfl
theorem Wc:bH 255=v4 (.jf v6 (eJ 5)):=rfl
theorem Wd:bH 256=v4 (.jf v6 (eJ 1)):=rfl
theorem We:bH 257=v4 (.code abI):=rfl
theorem Wf:bH 258=v4 (.code abJ):=rfl
theorem Wg:bH 259=v4 (.code abK):=rfl
theorem Wh:bH 260=v4 (.code abL):=rfl
theorem Wi:bH 261=v4 (.code abM):=rfl
theorem Wj:bH 263=v4 (.code TW):=rfl
theorem Mq:bH 276=v4 (.code abN):=rfl
theorem Wk:bH 277=v4 (.code abO):=rfl
theorem Wl:bH 281=v4 (.code abP):=rfl
theorem Wm:bH 283=v4 (.code abQ):=rfl
theorem Wn:bH 309=v4 (.code abR):=rfl
theorem Wo:bH 310=v4 (.code abS):=rfl
theorem Wp:bH 318=v4 (.code abT):=rfl
theorem Wq:bH 319=v4 (.code abU):=rfl
theorem Wr:bH 320=v4 (.code abV):=rfl
theorem Ws:bH 321=v4 (.code abW):=rfl
theorem Wt:bH 322=v4 (.code abX):=rfl
theorem Wu:bH 323=v4 (.code abY):=rfl
theorem Wv:bH 324=v4 (.code abZ):=rfl
theorem Ww:bH 328=v4 (.code ab0):=rfl
theorem Wx:bH 329=v4 (.code ab1):=rfl
theorem Wy:bH 330=v4 (.code ab2):=rfl
theorem Wz:bH 331=v4 (.code ab3):=rfl
theorem WA:bH 332=v4 (.code ab4):=rfl
theorem WB:bH 333=v4 (.code ab5):=rfl
theorem WC:bH 334=v4 (.code ab6):=rfl
theorem WD:bH 336=v4 (.code ab7):=rfl
theorem WE:bH 337=v4 (.code ab8):=rfl
theorem WG:bH 338=v4 (.code ab9):=rfl
theorem WH:bH 339=v4 (.code ab'):=rfl
theorem WI:bH 340=v4 (.code Ul):=rfl
theorem WJ:bH 341=v4 (.code aca):=rfl
theorem WK:bH 342=v4 (.code acb):=rfl
theorem WL:bH 343=v4 (.code acd):=rfl
theorem WM:bH 344=v4 (.code ace):=rfl
theorem WN:bH 345=v4 (.code acf):=rfl
theorem WQ:bH 346=v4 (.code acg):=rfl
theorem WR:bH 361=v4 (.code ach):=rfl
theorem WT:bH 365=v4 (.code aci):=rfl
theorem WU:bH 373=v4 (.code acj):=rfl
theorem WV:bH 374=v4 (.code ack):=rfl
theorem WW:bH 376=v4 (.code acm):=rfl
theorem WX:bH 377=v4 (.code acn):=rfl
theorem WY:bH 378=v4 (.code aco):=rfl
theorem WZ:bH 379=v4 (.code acp):=rfl
theorem W0:bH 380=v4 (.code acq):=rfl
theorem W3:bH 381=v4 (.code acr):=rfl
theorem W4:bH 382=v4 (.code acs):=rfl
theorem GH:bH 383=v4 (.code NV):=rfl
theorem Mr:bH 384=v4 (.code acu):=rfl
theorem W5:bH 385=v4 (.code acv):=rfl
theorem Ms:bH 386=v4 (.code UI):=rfl
theorem W6:bH 387=v4 (.code acw):=rfl
theorem Mt:bH 388=v4 (.code UL):=rfl
theorem W7:bH 389=v4 (.code acx):=rfl
theorem W8:bH 390=v4 (.code acy):=rfl
theorem W9:bH 391=v4 (.code acz):=rfl
theorem Xa:bH 393=v4 (.code acA):=rfl
theorem Xb:bH 394=v4 (.code acB):=rfl
theorem Xc:bH 395=v4 (.code acC):=rfl
theorem Xd:bH 402=v4 (.code acD):=rfl
theorem Xe:bH 403=v4 (.code acE):=rfl
theorem Xf:bH 404=v4 (.code acF):=rfl
theorem Xg:bH 405=v4 (.code acG):=rfl
theorem Xh:bH 406=v4 (.code acH):=rfl
theorem Xi:bH 407=v4 (.code acI):=rfl
theorem Mu:bH 408=v4 (.code acJ):=rfl
theorem Xj:bH 409=v4 (.code acK):=rfl
theorem Xk:bH 410=v4 (.code acL):=rfl
theorem Mv:bH 411=v4 (.code Qf):=rfl
theorem Xl:bH 412=v4 (.jf v6 yf):=rfl
theorem Xm:bH 413=v4 (.code acM):=rfl
theorem Xn:bH 414=v4 (.code acN):=rfl
theorem Xo:bH 415=v4 (.code acO):=rfl
theorem Xp:bH 416=v4 (.code acP):=rfl
theorem Xq:bH 417=v4 (.code acQ):=rfl
theorem Xr:bH 418=v4 (.jf v6 (eJ 1)):=rfl
end Go.Proofs.YtclphlgnjkajbaaGreat
