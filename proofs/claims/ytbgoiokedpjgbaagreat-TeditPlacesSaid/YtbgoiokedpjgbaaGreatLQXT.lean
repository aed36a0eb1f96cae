/- The table of the seat's functions. Printed by a program. -/
import Derived.Test.YtbgoiokedpjgbaaGreatLQX1
import Derived.Test.YtbgoiokedpjgbaaGreatLQX2
import Derived.Test.YtbgoiokedpjgbaaGreatLQIN
import Derived.Test.YtbgoiokedpjgbaaGreatLQIO
import Derived.Test.YtbgoiokedpjgbaaGreatLQIC
import Derived.Test.YtbgoiokedpjgbaaGreatChecked
open Option renaming some->ut
open Bool renaming false->v6
set_option maxRecDepth 100000
namespace Go.Proofs.YtbgoiokedpjgbaaGreat
open Go.Vm
theorem lr:Go.Proofs.Tryz.prog.follows .mixedOrders=true:=Go.Proofs.Tryz.checked.mixed
theorem ajJ:sY Go.Proofs.Tryz.prog 32 (.j0 v6 (fB 1)):=⟨rfl,mM lr (zero:=[.int .i64 0]) (by decide+kernel)⟩
theorem ajK:sY Go.Proofs.Tryz.prog 60 (.GI (Iu 3)):=ajF
theorem ajL:sY Go.Proofs.Tryz.prog 61 (.j0 v6 (fB 3)):=⟨rfl,mM lr (zero:=[.int .i64 0,.int .i64 0,.int .i64 0]) (by decide+kernel)⟩
theorem ajM:sY Go.Proofs.Tryz.prog 77 (.GI (I3 NY)):=ajH
theorem Z4:sY Go.Proofs.Tryz.prog 147 (.GI Is):=ajI
theorem Z5:sY Go.Proofs.Tryz.prog 209 (.j0 v6 (fB 3)):=⟨rfl,mM lr (zero:=[.int .i64 0,.int .i64 0,.int .i64 0]) (by decide+kernel)⟩
theorem Z6:sY Go.Proofs.Tryz.prog 210 (.j0 v6 (fB 3)):=⟨rfl,mM lr (zero:=[.int .i64 0,.int .i64 0,.int .i64 0]) (by decide+kernel)⟩
theorem Z7:sY Go.Proofs.Tryz.prog 211 (.j0 v6 (fB 5)):=⟨rfl,mM lr (zero:=[.int .i64 0,.int .i64 0,.int .i64 0,.int .i64 0,.int .i64 0]) (by decide+kernel)⟩
theorem Z8:sY Go.Proofs.Tryz.prog 212 (.j0 v6 (fB 1)):=⟨rfl,mM lr (zero:=[.bool v6]) (by decide+kernel)⟩
theorem Z9:sY Go.Proofs.Tryz.prog 289 (.j0 v6 zJ):=⟨rfl,NJ Go.Proofs.Tryz.func289 (by kernel_rfl) (by kernel_rfl) (by kernel_rfl) (by kernel_rfl)⟩
theorem Z':sY Go.Proofs.Tryz.prog 301 (.j0 v6 (fB 1)):=⟨rfl,mM lr (zero:=[.int .i64 0]) (by decide+kernel)⟩
noncomputable def aoA:TT:= .node 149 (.node 81 (.node 47 (.node 28 (.node 17 (.node 12 (.node 8 (.leaf 4 (.code x4)) (.node 10 (.leaf 8 (.code x8)) (.leaf 10 (.code x10)))) (.node 15 (.leaf 12 (.code x12)) (.node 16 (.leaf 15 (.code x15)) (.leaf 16 (.code x16))))) (.node 22 (.node 18 (.leaf 17 (.code x17)) (.node 19 (.leaf 18 (.code x18)) (.leaf 19 (.code x19)))) (.node 24 (.node 23 (.leaf 22 (.code x22)) (.leaf 23 (.code x23))) (.node 27 (.leaf 24 (.code x24)) (.leaf 27 (.code x27)))))) (.node 36 (.node 32 (.node 29 (.leaf 28 (.code x28)) (.node 31 (.leaf 29 (.code x29)) (.leaf 31 (.code x31)))) (.node 34 (.node 33 (.leaf 32 (.j0 v6 (fB 1))) (.leaf 33 (.code x33))) (.node 35 (.leaf 34 (.code x34)) (.leaf 35 (.code x35))))) (.node 43 (.node 37 (.leaf 36 (.code x36)) (.node 39 (.leaf 37 (.code x37)) (.leaf 39 (.code x39)))) (.node 45 (.node 44 (.leaf 43 (.code x43)) (.leaf 44 (.code x44))) (.node 46 (.leaf 45 (.code x45)) (.leaf 46 (.code x46))))))) (.node 66 (.node 57 (.node 50 (.node 48 (.leaf 47 (.code x47)) (.node 49 (.leaf 48 (.code x48)) (.leaf 49 (.code x49)))) (.node 52 (.node 51 (.leaf 50 (.code x50)) (.leaf 51 (.code x51))) (.node 53 (.leaf 52 (.code x52)) (.leaf 53 (.code x53))))) (.node 60 (.node 58 (.leaf 57 (.code x57)) (.node 59 (.leaf 58 (.code x58)) (.leaf 59 (.code x59)))) (.node 62 (.node 61 (.leaf 60 (.GI (Iu 3))) (.leaf 61 (.j0 v6 (fB 3)))) (.node 63 (.leaf 62 (.code x62)) (.leaf 63 (.code x63)))))) (.node 74 (.node 70 (.node 67 (.leaf 66 (.code x66)) (.node 69 (.leaf 67 (.code x67)) (.leaf 69 (.code x69)))) (.node 72 (.node 71 (.leaf 70 (.code x70)) (.leaf 71 (.code x71))) (.node 73 (.leaf 72 (.code x72)) (.leaf 73 (.code x73))))) (.node 77 (.node 75 (.leaf 74 (.code x74)) (.node 76 (.leaf 75 (.code x75)) (.leaf 76 (.code x76)))) (.node 79 (.node 78 (.leaf 77 (.GI (I3 NY))) (.leaf 78 (.code x78))) (.node 80 (.leaf 79 (.code x79)) (.leaf 80 (.code x80)))))))) (.node 117 (.node 98 (.node 88 (.node 84 (.node 82 (.leaf 81 (.code x81)) (.node 83 (.leaf 82 (.code x82)) (.leaf 83 (.code XB)))) (.node 86 (.node 85 (.leaf 84 (.code x84)) (.leaf 85 (.code x85))) (.node 87 (.leaf 86 (.code x86)) (.leaf 87 (.code x87))))) (.node 92 (.node 89 (.leaf 88 (.code x88)) (.node 91 (.leaf 89 (.code x89)) (.leaf 91 (.code x91)))) (.node 96 (.node 95 (.leaf 92 (.code x92)) (.leaf 95 (.code x95))) (.node 97 (.leaf 96 (.code x96)) (.leaf 97 (.code x97)))))) (.node 105 (.node 101 (.node 99 (.leaf 98 (.code x98)) (.node 100 (.leaf 99 (.code x99)) (.leaf 100 (.code ahu)))) (.node 103 (.node 102 (.leaf 101 (.code ahv)) (.leaf 102 (.code ahw))) (.node 104 (.leaf 103 (.code ahx)) (.leaf 104 (.code ahy))))) (.node 109 (.node 106 (.leaf 105 (.code ahz)) (.node 108 (.leaf 106 (.code ahA)) (.leaf 108 (.code ahB)))) (.node 111 (.node 110 (.leaf 109 (.code ahC)) (.leaf 110 (.code ahD))) (.node 116 (.leaf 111 (.code ahE)) (.leaf 116 (.code ahF))))))) (.node 135 (.node 126 (.node 120 (.node 118 (.leaf 117 (.code ahG)) (.node 119 (.leaf 118 (.code ahH)) (.leaf 119 (.code ahI)))) (.node 124 (.node 121 (.leaf 120 (.code ahJ)) (.leaf 121 (.code ahK))) (.node 125 (.leaf 124 (.code ahL)) (.leaf 125 (.code ahM))))) (.node 129 (.node 127 (.leaf 126 (.code ahN)) (.node 128 (.leaf 127 (.code ahO)) (.leaf 128 (.code ahQ)))) (.node 131 (.node 130 (.leaf 129 (.code Uz)) (.leaf 130 (.code R0))) (.node 132 (.leaf 131 (.code ahR)) (.leaf 132 (.code ahS)))))) (.node 142 (.node 138 (.node 136 (.leaf 135 (.code X3)) (.node 137 (.leaf 136 (.code X5)) (.leaf 137 (.code ahT)))) (.node 140 (.node 139 (.leaf 138 (.code ahU)) (.leaf 139 (.code ahV))) (.node 141 (.leaf 140 (.code ahW)) (.leaf 141 (.code ahX))))) (.node 145 (.node 143 (.leaf 142 (.code ahY)) (.node 144 (.leaf 143 (.code ahZ)) (.leaf 144 (.code ah0)))) (.node 147 (.node 146 (.leaf 145 (.code ah1)) (.leaf 146 (.code ah2))) (.node 148 (.leaf 147 (.GI Is)) (.leaf 148 (.code ah3))))))))) (.node 227 (.node 184 (.node 165 (.node 158 (.node 152 (.node 150 (.leaf 149 (.code ah4)) (.node 151 (.leaf 150 (.code ah5)) (.leaf 151 (.code ah6)))) (.node 156 (.node 153 (.leaf 152 (.code ah7)) (.leaf 153 (.code ah8))) (.node 157 (.leaf 156 (.code ah9)) (.leaf 157 (.code ah'))))) (.node 161 (.node 159 (.leaf 158 (.code aia)) (.node 160 (.leaf 159 (.code aib)) (.leaf 160 (.code aic)))) (.node 163 (.node 162 (.leaf 161 (.code aid)) (.leaf 162 (.code aie))) (.node 164 (.leaf 163 (.code aif)) (.leaf 164 (.code aih)))))) (.node 176 (.node 172 (.node 166 (.leaf 165 (.code aii)) (.node 168 (.leaf 166 (.code aij)) (.leaf 168 (.code aik)))) (.node 174 (.node 173 (.leaf 172 (.code ail)) (.leaf 173 (.code aim))) (.node 175 (.leaf 174 (.code ain)) (.leaf 175 (.code aio))))) (.node 180 (.node 177 (.leaf 176 (.code aip)) (.node 179 (.leaf 177 (.code aiq)) (.leaf 179 (.code air)))) (.node 182 (.node 181 (.leaf 180 (.code ais)) (.leaf 181 (.code ait))) (.node 183 (.leaf 182 (.code aiu)) (.leaf 183 (.code aiv))))))) (.node 209 (.node 202 (.node 187 (.node 185 (.leaf 184 (.code aiw)) (.node 186 (.leaf 185 (.code aix)) (.leaf 186 (.code UA)))) (.node 200 (.node 188 (.leaf 187 (.code Ot)) (.leaf 188 (.code R2))) (.node 201 (.leaf 200 (.code aiy)) (.leaf 201 (.code aiz))))) (.node 205 (.node 203 (.leaf 202 (.code YQ)) (.node 204 (.leaf 203 (.code aiA)) (.leaf 204 (.code aiB)))) (.node 207 (.node 206 (.leaf 205 (.code aiC)) (.leaf 206 (.code aiD))) (.node 208 (.leaf 207 (.code YW)) (.leaf 208 (.code aiE)))))) (.node 217 (.node 212 (.node 210 (.leaf 209 (.j0 v6 (fB 3))) (.node 211 (.leaf 210 (.j0 v6 (fB 3))) (.leaf 211 (.j0 v6 (fB 5))))) (.node 215 (.node 214 (.leaf 212 (.j0 v6 (fB 1))) (.leaf 214 (.code aiF))) (.node 216 (.leaf 215 (.code aiG)) (.leaf 216 (.code aiH))))) (.node 220 (.node 218 (.leaf 217 (.code aiI)) (.node 219 (.leaf 218 (.code aiJ)) (.leaf 219 (.code aiK)))) (.node 223 (.node 222 (.leaf 220 (.code aiL)) (.leaf 222 (.code aiM))) (.node 224 (.leaf 223 (.code aiN)) (.leaf 224 (.code aiO)))))))) (.node 269 (.node 247 (.node 235 (.node 230 (.node 228 (.leaf 227 (.code aiP)) (.node 229 (.leaf 228 (.code aiQ)) (.leaf 229 (.code aiR)))) (.node 233 (.node 232 (.leaf 230 (.code aiS)) (.leaf 232 (.code aiT))) (.node 234 (.leaf 233 (.code aiU)) (.leaf 234 (.code aiV))))) (.node 238 (.node 236 (.leaf 235 (.code aiW)) (.node 237 (.leaf 236 (.code Zg)) (.leaf 237 (.code aiX)))) (.node 240 (.node 239 (.leaf 238 (.code aiY)) (.leaf 239 (.code aiZ))) (.node 246 (.leaf 240 (.code ai0)) (.leaf 246 (.code ai1)))))) (.node 254 (.node 250 (.node 248 (.leaf 247 (.code ai2)) (.node 249 (.leaf 248 (.code ai3)) (.leaf 249 (.code ai4)))) (.node 252 (.node 251 (.leaf 250 (.code ai5)) (.leaf 251 (.code ai6))) (.node 253 (.leaf 252 (.code ai7)) (.leaf 253 (.code ai8))))) (.node 257 (.node 255 (.leaf 254 (.code ai9)) (.node 256 (.leaf 255 (.code ai')) (.leaf 256 (.code aja)))) (.node 267 (.node 258 (.leaf 257 (.code ajb)) (.leaf 258 (.code ajc))) (.node 268 (.leaf 267 (.code ajd)) (.leaf 268 (.code aje))))))) (.node 284 (.node 276 (.node 272 (.node 270 (.leaf 269 (.code ajf)) (.node 271 (.leaf 270 (.code ajg)) (.leaf 271 (.code ajh)))) (.node 274 (.node 273 (.leaf 272 (.code aji)) (.leaf 273 (.code ajj))) (.node 275 (.leaf 274 (.code ajk)) (.leaf 275 (.code ajl))))) (.node 280 (.node 278 (.leaf 276 (.code ajm)) (.node 279 (.leaf 278 (.code R3)) (.leaf 279 (.code ajn)))) (.node 282 (.node 281 (.leaf 280 (.code ajo)) (.leaf 281 (.code ZM))) (.node 283 (.leaf 282 (.code ajp)) (.leaf 283 (.code ZP)))))) (.node 294 (.node 290 (.node 285 (.leaf 284 (.code ajq)) (.node 289 (.leaf 285 (.code ajr)) (.leaf 289 (.j0 v6 zJ)))) (.node 292 (.node 291 (.leaf 290 (.code ajs)) (.leaf 291 (.code ajt))) (.node 293 (.leaf 292 (.code aju)) (.leaf 293 (.code ajv))))) (.node 297 (.node 295 (.leaf 294 (.code ajw)) (.node 296 (.leaf 295 (.code ajx)) (.leaf 296 (.code ajy)))) (.node 300 (.node 298 (.leaf 297 (.code ajz)) (.leaf 298 (.code UB))) (.node 301 (.leaf 300 (.code ajA)) (.leaf 301 (.j0 v6 (fB 1))))))))))
theorem P5:aoA.All (sY Go.Proofs.Tryz.prog):=⟨⟨⟨⟨⟨⟨⟨aoq,⟨aor,ags⟩⟩,⟨agt,⟨agu,agv⟩⟩⟩,⟨⟨agw,⟨agx,agy⟩⟩,⟨⟨agz,agA⟩,⟨agB,agC⟩⟩⟩⟩,⟨⟨⟨agD,⟨agE,agF⟩⟩,⟨⟨ajJ,agG⟩,⟨agH,agI⟩⟩⟩,⟨⟨agJ,⟨agK,agL⟩⟩,⟨⟨agM,agN⟩,⟨agO,agP⟩⟩⟩⟩⟩,⟨⟨⟨⟨agQ,⟨agR,agS⟩⟩,⟨⟨agT,agU⟩,⟨agV,agW⟩⟩⟩,⟨⟨agX,⟨agY,agZ⟩⟩,⟨⟨ajK,ajL⟩,⟨ag0,ag1⟩⟩⟩⟩,⟨⟨⟨ag2,⟨ag3,ag4⟩⟩,⟨⟨ag5,ag6⟩,⟨ag7,ag8⟩⟩⟩,⟨⟨ag9,⟨ag',aha⟩⟩,⟨⟨ajM,ahb⟩,⟨ahc,ahd⟩⟩⟩⟩⟩⟩,⟨⟨⟨⟨⟨ahe,⟨ahf,ahg⟩⟩,⟨⟨ahh,ahi⟩,⟨ahj,ahk⟩⟩⟩,⟨⟨ahl,⟨ahm,ahn⟩⟩,⟨⟨aho,ahp⟩,⟨ahq,ahr⟩⟩⟩⟩,⟨⟨⟨ahs,⟨aht,XC⟩⟩,⟨⟨XD,XE⟩,⟨XF,XG⟩⟩⟩,⟨⟨XH,⟨XI,XJ⟩⟩,⟨⟨XK,XL⟩,⟨XM,XN⟩⟩⟩⟩⟩,⟨⟨⟨⟨XO,⟨XP,XQ⟩⟩,⟨⟨XS,XT⟩,⟨XU,XV⟩⟩⟩,⟨⟨XW,⟨XX,XY⟩⟩,⟨⟨XZ,X0⟩,⟨X1,X2⟩⟩⟩⟩,⟨⟨⟨X4,⟨X6,X7⟩⟩,⟨⟨X8,X9⟩,⟨X',Ya⟩⟩⟩,⟨⟨Yb,⟨Yc,Yd⟩⟩,⟨⟨Ye,Yf⟩,⟨Z4,Yg⟩⟩⟩⟩⟩⟩⟩,⟨⟨⟨⟨⟨⟨Yh,⟨Yi,Yj⟩⟩,⟨⟨Yk,Yl⟩,⟨Ym,Yn⟩⟩⟩,⟨⟨Yo,⟨Yp,Yq⟩⟩,⟨⟨Yr,Ys⟩,⟨Yt,Yu⟩⟩⟩⟩,⟨⟨⟨Yv,⟨Yw,Yx⟩⟩,⟨⟨Yy,Yz⟩,⟨YA,YB⟩⟩⟩,⟨⟨YC,⟨YD,YE⟩⟩,⟨⟨YF,YG⟩,⟨YH,YI⟩⟩⟩⟩⟩,⟨⟨⟨⟨YJ,⟨YK,YL⟩⟩,⟨⟨YM,YN⟩,⟨YO,YP⟩⟩⟩,⟨⟨YR,⟨YS,YT⟩⟩,⟨⟨YU,YV⟩,⟨YX,YY⟩⟩⟩⟩,⟨⟨⟨Z5,⟨Z6,Z7⟩⟩,⟨⟨Z8,YZ⟩,⟨Y0,Y1⟩⟩⟩,⟨⟨Y2,⟨Y3,Y4⟩⟩,⟨⟨Y5,Y6⟩,⟨Y7,Y8⟩⟩⟩⟩⟩⟩,⟨⟨⟨⟨⟨Y9,⟨Y',Za⟩⟩,⟨⟨Zb,Zc⟩,⟨Zd,Ze⟩⟩⟩,⟨⟨Zf,⟨Zh,Zi⟩⟩,⟨⟨Zj,Zk⟩,⟨Zl,Zm⟩⟩⟩⟩,⟨⟨⟨Zn,⟨Zo,Zp⟩⟩,⟨⟨Zq,Zr⟩,⟨Zs,Zt⟩⟩⟩,⟨⟨Zu,⟨Zv,Zw⟩⟩,⟨⟨Zx,Zy⟩,⟨Zz,ZA⟩⟩⟩⟩⟩,⟨⟨⟨⟨ZB,⟨ZC,ZD⟩⟩,⟨⟨ZE,ZF⟩,⟨ZG,ZH⟩⟩⟩,⟨⟨ZI,⟨ZJ,ZK⟩⟩,⟨⟨ZL,ZN⟩,⟨ZO,ZQ⟩⟩⟩⟩,⟨⟨⟨ZR,⟨ZS,Z9⟩⟩,⟨⟨ZT,ZU⟩,⟨ZV,ZW⟩⟩⟩,⟨⟨ZX,⟨ZY,ZZ⟩⟩,⟨⟨Z0,Z1⟩,⟨Z2,Z'⟩⟩⟩⟩⟩⟩⟩⟩
noncomputable def aO:mJ:=aoA.get
theorem afd:aO 4=ut (.code x4):=rfl
theorem aoB:aO 8=ut (.code x8):=rfl
theorem ajN:aO 10=ut (.code x10):=rfl
theorem ajO:aO 12=ut (.code x12):=rfl
theorem ajP:aO 15=ut (.code x15):=rfl
theorem ajQ:aO 16=ut (.code x16):=rfl
theorem ajR:aO 17=ut (.code x17):=rfl
theorem ajS:aO 18=ut (.code x18):=rfl
theorem ajT:aO 19=ut (.code x19):=rfl
theorem ajU:aO 22=ut (.code x22):=rfl
theorem ajV:aO 23=ut (.code x23):=rfl
theorem ajW:aO 24=ut (.code x24):=rfl
theorem ajX:aO 27=ut (.code x27):=rfl
theorem ajY:aO 28=ut (.code x28):=rfl
theorem UH:aO 29=ut (.code x29):=rfl
theorem ajZ:aO 31=ut (.code x31):=rfl
theorem aj0:aO 32=ut (.j0 v6 (fB 1)):=rfl
theorem aj1:aO 33=ut (.code x33):=rfl
theorem UI:aO 34=ut (.code x34):=rfl
theorem aj2:aO 35=ut (.code x35):=rfl
theorem UJ:aO 36=ut (.code x36):=rfl
theorem aj3:aO 37=ut (.code x37):=rfl
theorem aj4:aO 39=ut (.code x39):=rfl
theorem aj5:aO 43=ut (.code x43):=rfl
theorem aj6:aO 44=ut (.code x44):=rfl
theorem aj7:aO 45=ut (.code x45):=rfl
theorem aj8:aO 46=ut (.code x46):=rfl
theorem aj9:aO 47=ut (.code x47):=rfl
theorem aj':aO 48=ut (.code x48):=rfl
theorem aka:aO 49=ut (.code x49):=rfl
theorem akb:aO 50=ut (.code x50):=rfl
theorem akc:aO 51=ut (.code x51):=rfl
theorem akd:aO 52=ut (.code x52):=rfl
theorem ake:aO 53=ut (.code x53):=rfl
theorem akf:aO 57=ut (.code x57):=rfl
theorem akg:aO 58=ut (.code x58):=rfl
theorem akh:aO 59=ut (.code x59):=rfl
theorem aki:aO 60=ut (.GI (Iu 3)):=rfl
theorem akj:aO 61=ut (.j0 v6 (fB 3)):=rfl
theorem akk:aO 62=ut (.code x62):=rfl
theorem akl:aO 63=ut (.code x63):=rfl
theorem akm:aO 66=ut (.code x66):=rfl
theorem akn:aO 67=ut (.code x67):=rfl
theorem ako:aO 69=ut (.code x69):=rfl
theorem akp:aO 70=ut (.code x70):=rfl
theorem UK:aO 71=ut (.code x71):=rfl
theorem UL:aO 72=ut (.code x72):=rfl
theorem UM:aO 73=ut (.code x73):=rfl
theorem akq:aO 74=ut (.code x74):=rfl
theorem akr:aO 75=ut (.code x75):=rfl
theorem aks:aO 76=ut (.code x76):=rfl
theorem akt:aO 77=ut (.GI (I3 NY)):=rfl
theorem aku:aO 78=ut (.code x78):=rfl
theorem akv:aO 79=ut (.code x79):=rfl
theorem akw:aO 80=ut (.code x80):=rfl
theorem akx:aO 81=ut (.code x81):=rfl
theorem aky:aO 82=ut (.code x82):=rfl
theorem Ct:aO 83=ut (.code XB):=rfl
theorem akz:aO 84=ut (.code x84):=rfl
theorem akA:aO 85=ut (.code x85):=rfl
theorem akB:aO 86=ut (.code x86):=rfl
theorem akC:aO 87=ut (.code x87):=rfl
theorem akD:aO 88=ut (.code x88):=rfl
theorem akE:aO 89=ut (.code x89):=rfl
theorem akF:aO 91=ut (.code x91):=rfl
theorem akG:aO 92=ut (.code x92):=rfl
theorem akH:aO 95=ut (.code x95):=rfl
theorem akI:aO 96=ut (.code x96):=rfl
theorem akJ:aO 97=ut (.code x97):=rfl
theorem akK:aO 98=ut (.code x98):=rfl
theorem akL:aO 99=ut (.code x99):=rfl
theorem aaa:aO 100=ut (.code ahu):=rfl
theorem aab:aO 101=ut (.code ahv):=rfl
theorem aac:aO 102=ut (.code ahw):=rfl
theorem aad:aO 103=ut (.code ahx):=rfl
theorem aae:aO 104=ut (.code ahy):=rfl
theorem aaf:aO 105=ut (.code ahz):=rfl
theorem aag:aO 106=ut (.code ahA):=rfl
theorem aah:aO 108=ut (.code ahB):=rfl
theorem Ji:aO 109=ut (.code ahC):=rfl
theorem aai:aO 110=ut (.code ahD):=rfl
theorem aaj:aO 111=ut (.code ahE):=rfl
theorem aak:aO 116=ut (.code ahF):=rfl
theorem aal:aO 117=ut (.code ahG):=rfl
theorem aam:aO 118=ut (.code ahH):=rfl
theorem aan:aO 119=ut (.code ahI):=rfl
theorem aao:aO 120=ut (.code ahJ):=rfl
theorem aap:aO 121=ut (.code ahK):=rfl
theorem aaq:aO 124=ut (.code ahL):=rfl
theorem P6:aO 125=ut (.code ahM):=rfl
theorem aar:aO 126=ut (.code ahN):=rfl
theorem aas:aO 127=ut (.code ahO):=rfl
theorem aat:aO 128=ut (.code ahQ):=rfl
theorem P7:aO 129=ut (.code Uz):=rfl
theorem Jj:aO 130=ut (.code R0):=rfl
theorem aau:aO 131=ut (.code ahR):=rfl
theorem aav:aO 132=ut (.code ahS):=rfl
theorem P8:aO 135=ut (.code X3):=rfl
theorem P9:aO 136=ut (.code X5):=rfl
theorem aaw:aO 137=ut (.code ahT):=rfl
theorem Jk:aO 138=ut (.code ahU):=rfl
theorem aax:aO 139=ut (.code ahV):=rfl
theorem aay:aO 140=ut (.code ahW):=rfl
theorem aaz:aO 141=ut (.code ahX):=rfl
theorem aaA:aO 142=ut (.code ahY):=rfl
theorem aaB:aO 143=ut (.code ahZ):=rfl
theorem aaC:aO 144=ut (.code ah0):=rfl
theorem aaD:aO 145=ut (.code ah1):=rfl
theorem P':aO 146=ut (.code ah2):=rfl
theorem aaE:aO 147=ut (.GI Is):=rfl
theorem aaF:aO 148=ut (.code ah3):=rfl
theorem aaG:aO 149=ut (.code ah4):=rfl
theorem aaH:aO 150=ut (.code ah5):=rfl
theorem aaI:aO 151=ut (.code ah6):=rfl
theorem aaJ:aO 152=ut (.code ah7):=rfl
theorem aaK:aO 153=ut (.code ah8):=rfl
theorem aaL:aO 156=ut (.code ah9):=rfl
theorem aaM:aO 157=ut (.code ah'):=rfl
theorem aaN:aO 158=ut (.code aia):=rfl
theorem aaO:aO 159=ut (.code aib):=rfl
theorem aaP:aO 160=ut (.code aic):=rfl
theorem aaQ:aO 161=ut (.code aid):=rfl
theorem aaR:aO 162=ut (.code aie):=rfl
theorem aaS:aO 163=ut (.code aif):=rfl
theorem aaT:aO 164=ut (.code aih):=rfl
theorem aaU:aO 165=ut (.code aii):=rfl
theorem aaV:aO 166=ut (.code aij):=rfl
theorem aaW:aO 168=ut (.code aik):=rfl
theorem aaX:aO 172=ut (.code ail):=rfl
theorem aaY:aO 173=ut (.code aim):=rfl
theorem aaZ:aO 174=ut (.code ain):=rfl
theorem aa0:aO 175=ut (.code aio):=rfl
theorem aa1:aO 176=ut (.code aip):=rfl
theorem aa2:aO 177=ut (.code aiq):=rfl
theorem aa3:aO 179=ut (.code air):=rfl
theorem Qa:aO 180=ut (.code ais):=rfl
theorem aa4:aO 181=ut (.code ait):=rfl
theorem aa5:aO 182=ut (.code aiu):=rfl
theorem aa6:aO 183=ut (.code aiv):=rfl
theorem aa7:aO 184=ut (.code aiw):=rfl
theorem aa8:aO 185=ut (.code aix):=rfl
theorem Qb:aO 186=ut (.code UA):=rfl
theorem DV:aO 187=ut (.code Ot):=rfl
theorem Jl:aO 188=ut (.code R2):=rfl
theorem aa9:aO 200=ut (.code aiy):=rfl
theorem Jm:aO 201=ut (.code aiz):=rfl
theorem aa':aO 202=ut (.code YQ):=rfl
theorem aba:aO 203=ut (.code aiA):=rfl
theorem abb:aO 204=ut (.code aiB):=rfl
theorem abc:aO 205=ut (.code aiC):=rfl
theorem abd:aO 206=ut (.code aiD):=rfl
theorem Qc:aO 207=ut (.code YW):=rfl
theorem abe:aO 208=ut (.code aiE):=rfl
theorem abf:aO 209=ut (.j0 v6 (fB 3)):=rfl
theorem abg:aO 210=ut (.j0 v6 (fB 3)):=rfl
theorem abh:aO 211=ut (.j0 v6 (fB 5)):=rfl
theorem abi:aO 212=ut (.j0 v6 (fB 1)):=rfl
theorem abj:aO 214=ut (.code aiF):=rfl
theorem abk:aO 215=ut (.code aiG):=rfl
theorem abl:aO 216=ut (.code aiH):=rfl
theorem abm:aO 217=ut (.code aiI):=rfl
theorem abn:aO 218=ut (.code aiJ):=rfl
theorem abo:aO 219=ut (.code aiK):=rfl
theorem abp:aO 220=ut (.code aiL):=rfl
theorem abq:aO 222=ut (.code aiM):=rfl
theorem abr:aO 223=ut (.code aiN):=rfl
theorem abt:aO 224=ut (.code aiO):=rfl
theorem abu:aO 227=ut (.code aiP):=rfl
theorem abv:aO 228=ut (.code aiQ):=rfl
theorem abw:aO 229=ut (.code aiR):=rfl
theorem abx:aO 230=ut (.code aiS):=rfl
theorem aby:aO 232=ut (.code aiT):=rfl
theorem abz:aO 233=ut (.code aiU):=rfl
theorem abA:aO 234=ut (.code aiV):=rfl
theorem abB:aO 235=ut (.code aiW):=rfl
theorem abC:aO 236=ut (.code Zg):=rfl
theorem abD:aO 237=ut (.code aiX):=rfl
theorem abE:aO 238=ut (.code aiY):=rfl
theorem abF:aO 239=ut (.code aiZ):=rfl
theorem abG:aO 240=ut (.code ai0):=rfl
theorem abH:aO 246=ut (.code ai1):=rfl
theorem abI:aO 247=ut (.code ai2):=rfl
theorem abJ:aO 248=ut (.code ai3):=rfl
theorem abK:aO 249=ut (.code ai4):=rfl
theorem abL:aO 250=ut (.code ai5):=rfl
theorem Jn:aO 251=ut (.code ai6):=rfl
theorem abM:aO 252=ut (.code ai7):=rfl
theorem Qd:aO 253=ut (.code ai8):=rfl
theorem Jo:aO 254=ut (.code ai9):=rfl
theorem abN:aO 255=ut (.code ai'):=rfl
theorem abO:aO 256=ut (.code aja):=rfl
theorem abP:aO 257=ut (.code ajb):=rfl
theorem abQ:aO 258=ut (.code ajc):=rfl
theorem abR:aO 267=ut (.code ajd):=rfl
theorem abS:aO 268=ut (.code aje):=rfl
theorem abT:aO 269=ut (.code ajf):=rfl
theorem abU:aO 270=ut (.code ajg):=rfl
theorem abV:aO 271=ut (.code ajh):=rfl
theorem abW:aO 272=ut (.code aji):=rfl
theorem abX:aO 273=ut (.code ajj):=rfl
theorem abY:aO 274=ut (.code ajk):=rfl
theorem abZ:aO 275=ut (.code ajl):=rfl
theorem ab0:aO 276=ut (.code ajm):=rfl
theorem Jp:aO 278=ut (.code R3):=rfl
theorem Qe:aO 279=ut (.code ajn):=rfl
theorem ab1:aO 280=ut (.code ajo):=rfl
theorem Qf:aO 281=ut (.code ZM):=rfl
theorem ab2:aO 282=ut (.code ajp):=rfl
theorem Qg:aO 283=ut (.code ZP):=rfl
theorem ab3:aO 284=ut (.code ajq):=rfl
theorem ab4:aO 285=ut (.code ajr):=rfl
theorem ab5:aO 289=ut (.j0 v6 zJ):=rfl
theorem ab6:aO 290=ut (.code ajs):=rfl
theorem ab7:aO 291=ut (.code ajt):=rfl
theorem ab8:aO 292=ut (.code aju):=rfl
theorem ab9:aO 293=ut (.code ajv):=rfl
theorem ab':aO 294=ut (.code ajw):=rfl
theorem Qh:aO 295=ut (.code ajx):=rfl
theorem aca:aO 296=ut (.code ajy):=rfl
theorem acb:aO 297=ut (.code ajz):=rfl
theorem Qi:aO 298=ut (.code UB):=rfl
theorem acd:aO 300=ut (.code ajA):=rfl
theorem ace:aO 301=ut (.j0 v6 (fB 1)):=rfl
end Go.Proofs.YtbgoiokedpjgbaaGreat
