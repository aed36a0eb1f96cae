/- The table of the seat's functions. Printed by a program. -/
import Derived.Test.YtbgoiokedpjgbaaGreatQQX1
import Derived.Test.YtbgoiokedpjgbaaGreatQQX2
import Derived.Test.YtbgoiokedpjgbaaGreatQQIN
import Derived.Test.YtbgoiokedpjgbaaGreatQQIO
import Derived.Test.YtbgoiokedpjgbaaGreatQQIC
import Derived.Test.YtbgoiokedpjgbaaGreatChecked
open Option renaming some->ut
open Bool renaming false->v6
set_option maxRecDepth 100000
namespace Go.Proofs.YtbgoiokedpjgbaaGreat
open Go.Vm
theorem lF:Go.Proofs.Tryz.prog.follows .mixedOrders=true:=Go.Proofs.Tryz.checked.mixed
theorem akh:tQ Go.Proofs.Tryz.prog 32 (.kg v6 (fI 1)):=⟨rfl,na lF (zero:=[.int .i64 0]) (by decide+kernel)⟩
theorem aki:tQ Go.Proofs.Tryz.prog 60 (.Hj (Jd 3)):=akd
theorem akj:tQ Go.Proofs.Tryz.prog 61 (.kg v6 (fI 3)):=⟨rfl,na lF (zero:=[.int .i64 0,.int .i64 0,.int .i64 0]) (by decide+kernel)⟩
theorem akk:tQ Go.Proofs.Tryz.prog 77 (.Hj (JK OG)):=akf
theorem aaC:tQ Go.Proofs.Tryz.prog 147 (.Hj Jb):=akg
theorem aaD:tQ Go.Proofs.Tryz.prog 209 (.kg v6 (fI 3)):=⟨rfl,na lF (zero:=[.int .i64 0,.int .i64 0,.int .i64 0]) (by decide+kernel)⟩
theorem aaE:tQ Go.Proofs.Tryz.prog 210 (.kg v6 (fI 3)):=⟨rfl,na lF (zero:=[.int .i64 0,.int .i64 0,.int .i64 0]) (by decide+kernel)⟩
theorem aaF:tQ Go.Proofs.Tryz.prog 211 (.kg v6 (fI 5)):=⟨rfl,na lF (zero:=[.int .i64 0,.int .i64 0,.int .i64 0,.int .i64 0,.int .i64 0]) (by decide+kernel)⟩
theorem aaG:tQ Go.Proofs.Tryz.prog 212 (.kg v6 (fI 1)):=⟨rfl,na lF (zero:=[.bool v6]) (by decide+kernel)⟩
theorem aaH:tQ Go.Proofs.Tryz.prog 289 (.kg v6 As):=⟨rfl,Oo Go.Proofs.Tryz.func289 (by kernel_rfl) (by kernel_rfl) (by kernel_rfl) (by kernel_rfl)⟩
theorem aaI:tQ Go.Proofs.Tryz.prog 301 (.kg v6 (fI 1)):=⟨rfl,na lF (zero:=[.int .i64 0]) (by decide+kernel)⟩
noncomputable def aoJ:TT:= .node 151 (.node 84 (.node 51 (.node 32 (.node 19 (.node 15 (.node 10 (.leaf 6 (.code x6)) (.node 12 (.leaf 10 (.code x10)) (.leaf 12 (.code x12)))) (.node 17 (.leaf 15 (.code x15)) (.node 18 (.leaf 17 (.code x17)) (.leaf 18 (.code x18))))) (.node 23 (.node 21 (.leaf 19 (.code x19)) (.node 22 (.leaf 21 (.code x21)) (.leaf 22 (.code x22)))) (.node 29 (.node 24 (.leaf 23 (.code x23)) (.leaf 24 (.code x24))) (.node 31 (.leaf 29 (.code x29)) (.leaf 31 (.code x31)))))) (.node 43 (.node 35 (.node 33 (.leaf 32 (.kg v6 (fI 1))) (.node 34 (.leaf 33 (.code x33)) (.leaf 34 (.code x34)))) (.node 37 (.node 36 (.leaf 35 (.code x35)) (.leaf 36 (.code x36))) (.node 39 (.leaf 37 (.code x37)) (.leaf 39 (.code x39))))) (.node 47 (.node 44 (.leaf 43 (.code x43)) (.node 46 (.leaf 44 (.code x44)) (.leaf 46 (.code x46)))) (.node 49 (.node 48 (.leaf 47 (.code x47)) (.leaf 48 (.code x48))) (.node 50 (.leaf 49 (.code x49)) (.leaf 50 (.code x50))))))) (.node 67 (.node 58 (.node 54 (.node 52 (.leaf 51 (.code x51)) (.node 53 (.leaf 52 (.code x52)) (.leaf 53 (.code x53)))) (.node 56 (.node 55 (.leaf 54 (.code x54)) (.leaf 55 (.code x55))) (.node 57 (.leaf 56 (.code x56)) (.leaf 57 (.code x57))))) (.node 61 (.node 59 (.leaf 58 (.code x58)) (.node 60 (.leaf 59 (.code x59)) (.leaf 60 (.Hj (Jd 3))))) (.node 63 (.node 62 (.leaf 61 (.kg v6 (fI 3))) (.leaf 62 (.code x62))) (.node 66 (.leaf 63 (.code x63)) (.leaf 66 (.code x66)))))) (.node 77 (.node 73 (.node 71 (.leaf 67 (.code x67)) (.node 72 (.leaf 71 (.code x71)) (.leaf 72 (.code x72)))) (.node 75 (.node 74 (.leaf 73 (.code x73)) (.leaf 74 (.code x74))) (.node 76 (.leaf 75 (.code x75)) (.leaf 76 (.code x76))))) (.node 80 (.node 78 (.leaf 77 (.Hj (JK OG))) (.node 79 (.leaf 78 (.code x78)) (.leaf 79 (.code x79)))) (.node 82 (.node 81 (.leaf 80 (.code x80)) (.leaf 81 (.code x81))) (.node 83 (.leaf 82 (.code x82)) (.leaf 83 (.code X')))))))) (.node 118 (.node 100 (.node 91 (.node 87 (.node 85 (.leaf 84 (.code x84)) (.node 86 (.leaf 85 (.code x85)) (.leaf 86 (.code x86)))) (.node 88 (.leaf 87 (.code x87)) (.node 89 (.leaf 88 (.code x88)) (.leaf 89 (.code x89))))) (.node 96 (.node 92 (.leaf 91 (.code x91)) (.node 95 (.leaf 92 (.code x92)) (.leaf 95 (.code x95)))) (.node 98 (.node 97 (.leaf 96 (.code x96)) (.leaf 97 (.code x97))) (.node 99 (.leaf 98 (.code x98)) (.leaf 99 (.code x99)))))) (.node 107 (.node 103 (.node 101 (.leaf 100 (.code ah3)) (.node 102 (.leaf 101 (.code ah4)) (.leaf 102 (.code ah5)))) (.node 105 (.node 104 (.leaf 103 (.code ah6)) (.leaf 104 (.code ah7))) (.node 106 (.leaf 105 (.code ah8)) (.leaf 106 (.code ah9))))) (.node 110 (.node 108 (.leaf 107 (.code ah')) (.node 109 (.leaf 108 (.code aia)) (.leaf 109 (.code aib)))) (.node 116 (.node 111 (.leaf 110 (.code aic)) (.leaf 111 (.code aid))) (.node 117 (.leaf 116 (.code aie)) (.leaf 117 (.code aif))))))) (.node 137 (.node 128 (.node 121 (.node 119 (.leaf 118 (.code aih)) (.node 120 (.leaf 119 (.code aii)) (.leaf 120 (.code aij)))) (.node 126 (.node 125 (.leaf 121 (.code aik)) (.leaf 125 (.code ail))) (.node 127 (.leaf 126 (.code aim)) (.leaf 127 (.code ain))))) (.node 131 (.node 129 (.leaf 128 (.code aio)) (.node 130 (.leaf 129 (.code U9)) (.leaf 130 (.code SC)))) (.node 135 (.node 132 (.leaf 131 (.code aip)) (.leaf 132 (.code aiq))) (.node 136 (.leaf 135 (.code YA)) (.leaf 136 (.code YC)))))) (.node 144 (.node 140 (.node 138 (.leaf 137 (.code air)) (.node 139 (.leaf 138 (.code ais)) (.leaf 139 (.code ait)))) (.node 142 (.node 141 (.leaf 140 (.code aiu)) (.leaf 141 (.code aiv))) (.node 143 (.leaf 142 (.code aiw)) (.leaf 143 (.code aix))))) (.node 147 (.node 145 (.leaf 144 (.code aiy)) (.node 146 (.leaf 145 (.code aiz)) (.leaf 146 (.code aiA)))) (.node 149 (.node 148 (.leaf 147 (.Hj Jb)) (.leaf 148 (.code aiB))) (.node 150 (.leaf 149 (.code aiC)) (.leaf 150 (.code aiD))))))))) (.node 227 (.node 184 (.node 166 (.node 159 (.node 156 (.node 152 (.leaf 151 (.code aiE)) (.node 153 (.leaf 152 (.code aiF)) (.leaf 153 (.code aiG)))) (.node 157 (.leaf 156 (.code aiH)) (.node 158 (.leaf 157 (.code aiI)) (.leaf 158 (.code aiJ))))) (.node 162 (.node 160 (.leaf 159 (.code aiK)) (.node 161 (.leaf 160 (.code aiL)) (.leaf 161 (.code aiM)))) (.node 164 (.node 163 (.leaf 162 (.code aiN)) (.leaf 163 (.code aiO))) (.node 165 (.leaf 164 (.code aiP)) (.leaf 165 (.code aiQ)))))) (.node 176 (.node 172 (.node 167 (.leaf 166 (.code aiR)) (.node 168 (.leaf 167 (.code aiS)) (.leaf 168 (.code aiT)))) (.node 174 (.node 173 (.leaf 172 (.code aiU)) (.leaf 173 (.code aiV))) (.node 175 (.leaf 174 (.code aiW)) (.leaf 175 (.code aiX))))) (.node 180 (.node 177 (.leaf 176 (.code aiY)) (.node 179 (.leaf 177 (.code aiZ)) (.leaf 179 (.code ai0)))) (.node 182 (.node 181 (.leaf 180 (.code ai1)) (.leaf 181 (.code ai2))) (.node 183 (.leaf 182 (.code ai3)) (.leaf 183 (.code ai4))))))) (.node 209 (.node 202 (.node 187 (.node 185 (.leaf 184 (.code ai5)) (.node 186 (.leaf 185 (.code ai6)) (.leaf 186 (.code U')))) (.node 200 (.node 188 (.leaf 187 (.code O6)) (.leaf 188 (.code SD))) (.node 201 (.leaf 200 (.code ai7)) (.leaf 201 (.code ai8))))) (.node 205 (.node 203 (.leaf 202 (.code Zo)) (.node 204 (.leaf 203 (.code ai9)) (.leaf 204 (.code ai')))) (.node 207 (.node 206 (.leaf 205 (.code aja)) (.leaf 206 (.code ajb))) (.node 208 (.leaf 207 (.code Zu)) (.leaf 208 (.code ajc)))))) (.node 217 (.node 212 (.node 210 (.leaf 209 (.kg v6 (fI 3))) (.node 211 (.leaf 210 (.kg v6 (fI 3))) (.leaf 211 (.kg v6 (fI 5))))) (.node 215 (.node 214 (.leaf 212 (.kg v6 (fI 1))) (.leaf 214 (.code ajd))) (.node 216 (.leaf 215 (.code aje)) (.leaf 216 (.code ajf))))) (.node 220 (.node 218 (.leaf 217 (.code ajg)) (.node 219 (.leaf 218 (.code ajh)) (.leaf 219 (.code aji)))) (.node 223 (.node 222 (.leaf 220 (.code ajj)) (.leaf 222 (.code ajk))) (.node 224 (.leaf 223 (.code ajl)) (.leaf 224 (.code ajm)))))))) (.node 269 (.node 247 (.node 235 (.node 230 (.node 228 (.leaf 227 (.code ajn)) (.node 229 (.leaf 228 (.code ajo)) (.leaf 229 (.code ajp)))) (.node 233 (.node 232 (.leaf 230 (.code ajq)) (.leaf 232 (.code ajr))) (.node 234 (.leaf 233 (.code ajs)) (.leaf 234 (.code ajt))))) (.node 238 (.node 236 (.leaf 235 (.code aju)) (.node 237 (.leaf 236 (.code ZP)) (.leaf 237 (.code ajv)))) (.node 240 (.node 239 (.leaf 238 (.code ajw)) (.leaf 239 (.code ajx))) (.node 246 (.leaf 240 (.code ajy)) (.leaf 246 (.code ajz)))))) (.node 254 (.node 250 (.node 248 (.leaf 247 (.code ajA)) (.node 249 (.leaf 248 (.code ajB)) (.leaf 249 (.code ajC)))) (.node 252 (.node 251 (.leaf 250 (.code ajD)) (.leaf 251 (.code ajE))) (.node 253 (.leaf 252 (.code ajF)) (.leaf 253 (.code ajG))))) (.node 257 (.node 255 (.leaf 254 (.code ajH)) (.node 256 (.leaf 255 (.code ajI)) (.leaf 256 (.code ajJ)))) (.node 267 (.node 258 (.leaf 257 (.code ajK)) (.leaf 258 (.code ajL))) (.node 268 (.leaf 267 (.code ajM)) (.leaf 268 (.code ajN))))))) (.node 284 (.node 276 (.node 272 (.node 270 (.leaf 269 (.code ajO)) (.node 271 (.leaf 270 (.code ajP)) (.leaf 271 (.code ajQ)))) (.node 274 (.node 273 (.leaf 272 (.code ajR)) (.leaf 273 (.code ajS))) (.node 275 (.leaf 274 (.code ajT)) (.leaf 275 (.code ajU))))) (.node 280 (.node 278 (.leaf 276 (.code ajV)) (.node 279 (.leaf 278 (.code SF)) (.leaf 279 (.code ajW)))) (.node 282 (.node 281 (.leaf 280 (.code ajX)) (.leaf 281 (.code aak))) (.node 283 (.leaf 282 (.code ajY)) (.leaf 283 (.code aan)))))) (.node 294 (.node 290 (.node 285 (.leaf 284 (.code ajZ)) (.node 289 (.leaf 285 (.code aj0)) (.leaf 289 (.kg v6 As)))) (.node 292 (.node 291 (.leaf 290 (.code aj1)) (.leaf 291 (.code aj2))) (.node 293 (.leaf 292 (.code aj3)) (.leaf 293 (.code aj4))))) (.node 297 (.node 295 (.leaf 294 (.code aj5)) (.node 296 (.leaf 295 (.code aj6)) (.leaf 296 (.code aj7)))) (.node 300 (.node 298 (.leaf 297 (.code aj8)) (.leaf 298 (.code Va))) (.node 301 (.leaf 300 (.code aj9)) (.leaf 301 (.kg v6 (fI 1))))))))))
theorem QJ:aoJ.All (tQ Go.Proofs.Tryz.prog):=⟨⟨⟨⟨⟨⟨⟨aoA,⟨ag2,ag3⟩⟩,⟨ag4,⟨ag5,ag6⟩⟩⟩,⟨⟨ag7,⟨ag8,ag9⟩⟩,⟨⟨ag',aha⟩,⟨ahb,ahc⟩⟩⟩⟩,⟨⟨⟨akh,⟨ahd,ahe⟩⟩,⟨⟨ahf,ahg⟩,⟨ahh,ahi⟩⟩⟩,⟨⟨ahj,⟨ahk,ahl⟩⟩,⟨⟨ahm,ahn⟩,⟨aho,ahp⟩⟩⟩⟩⟩,⟨⟨⟨⟨ahq,⟨ahr,ahs⟩⟩,⟨⟨aht,ahu⟩,⟨ahv,ahw⟩⟩⟩,⟨⟨ahx,⟨ahy,aki⟩⟩,⟨⟨akj,ahz⟩,⟨ahA,ahB⟩⟩⟩⟩,⟨⟨⟨ahC,⟨ahD,ahE⟩⟩,⟨⟨ahF,ahG⟩,⟨ahH,ahI⟩⟩⟩,⟨⟨akk,⟨ahJ,ahK⟩⟩,⟨⟨ahL,ahM⟩,⟨ahN,ahO⟩⟩⟩⟩⟩⟩,⟨⟨⟨⟨⟨ahQ,⟨ahR,ahS⟩⟩,⟨ahT,⟨ahU,ahV⟩⟩⟩,⟨⟨ahW,⟨ahX,ahY⟩⟩,⟨⟨ahZ,ah0⟩,⟨ah1,ah2⟩⟩⟩⟩,⟨⟨⟨Ya,⟨Yb,Yc⟩⟩,⟨⟨Yd,Ye⟩,⟨Yf,Yg⟩⟩⟩,⟨⟨Yh,⟨Yi,Yj⟩⟩,⟨⟨Yk,Yl⟩,⟨Ym,Yn⟩⟩⟩⟩⟩,⟨⟨⟨⟨Yo,⟨Yp,Yq⟩⟩,⟨⟨Yr,Ys⟩,⟨Yt,Yu⟩⟩⟩,⟨⟨Yv,⟨Yw,Yx⟩⟩,⟨⟨Yy,Yz⟩,⟨YB,YD⟩⟩⟩⟩,⟨⟨⟨YE,⟨YF,YG⟩⟩,⟨⟨YH,YI⟩,⟨YJ,YK⟩⟩⟩,⟨⟨YL,⟨YM,YN⟩⟩,⟨⟨aaC,YO⟩,⟨YP,YQ⟩⟩⟩⟩⟩⟩⟩,⟨⟨⟨⟨⟨⟨YR,⟨YS,YT⟩⟩,⟨YU,⟨YV,YW⟩⟩⟩,⟨⟨YX,⟨YY,YZ⟩⟩,⟨⟨Y0,Y1⟩,⟨Y2,Y3⟩⟩⟩⟩,⟨⟨⟨Y4,⟨Y5,Y6⟩⟩,⟨⟨Y7,Y8⟩,⟨Y9,Y'⟩⟩⟩,⟨⟨Za,⟨Zb,Zc⟩⟩,⟨⟨Zd,Ze⟩,⟨Zf,Zg⟩⟩⟩⟩⟩,⟨⟨⟨⟨Zh,⟨Zi,Zj⟩⟩,⟨⟨Zk,Zl⟩,⟨Zm,Zn⟩⟩⟩,⟨⟨Zp,⟨Zq,Zr⟩⟩,⟨⟨Zs,Zt⟩,⟨Zv,Zw⟩⟩⟩⟩,⟨⟨⟨aaD,⟨aaE,aaF⟩⟩,⟨⟨aaG,Zx⟩,⟨Zy,Zz⟩⟩⟩,⟨⟨ZA,⟨ZB,ZC⟩⟩,⟨⟨ZD,ZE⟩,⟨ZF,ZG⟩⟩⟩⟩⟩⟩,⟨⟨⟨⟨⟨ZH,⟨ZI,ZJ⟩⟩,⟨⟨ZK,ZL⟩,⟨ZM,ZN⟩⟩⟩,⟨⟨ZO,⟨ZQ,ZR⟩⟩,⟨⟨ZS,ZT⟩,⟨ZU,ZV⟩⟩⟩⟩,⟨⟨⟨ZW,⟨ZX,ZY⟩⟩,⟨⟨ZZ,Z0⟩,⟨Z1,Z2⟩⟩⟩,⟨⟨Z3,⟨Z4,Z5⟩⟩,⟨⟨Z6,Z7⟩,⟨Z8,Z9⟩⟩⟩⟩⟩,⟨⟨⟨⟨Z',⟨aaa,aab⟩⟩,⟨⟨aac,aad⟩,⟨aae,aaf⟩⟩⟩,⟨⟨aag,⟨aah,aai⟩⟩,⟨⟨aaj,aal⟩,⟨aam,aao⟩⟩⟩⟩,⟨⟨⟨aap,⟨aaq,aaH⟩⟩,⟨⟨aar,aas⟩,⟨aat,aau⟩⟩⟩,⟨⟨aav,⟨aaw,aax⟩⟩,⟨⟨aay,aaz⟩,⟨aaA,aaI⟩⟩⟩⟩⟩⟩⟩⟩
noncomputable def aP:m8:=aoJ.get
theorem afL:aP 6=ut (.code x6):=rfl
theorem akl:aP 10=ut (.code x10):=rfl
theorem akm:aP 12=ut (.code x12):=rfl
theorem akn:aP 15=ut (.code x15):=rfl
theorem ako:aP 17=ut (.code x17):=rfl
theorem akp:aP 18=ut (.code x18):=rfl
theorem akq:aP 19=ut (.code x19):=rfl
theorem akr:aP 21=ut (.code x21):=rfl
theorem aks:aP 22=ut (.code x22):=rfl
theorem akt:aP 23=ut (.code x23):=rfl
theorem aku:aP 24=ut (.code x24):=rfl
theorem Vg:aP 29=ut (.code x29):=rfl
theorem akv:aP 31=ut (.code x31):=rfl
theorem akw:aP 32=ut (.kg v6 (fI 1)):=rfl
theorem akx:aP 33=ut (.code x33):=rfl
theorem Vh:aP 34=ut (.code x34):=rfl
theorem aky:aP 35=ut (.code x35):=rfl
theorem Vi:aP 36=ut (.code x36):=rfl
theorem akz:aP 37=ut (.code x37):=rfl
theorem akA:aP 39=ut (.code x39):=rfl
theorem akB:aP 43=ut (.code x43):=rfl
theorem akC:aP 44=ut (.code x44):=rfl
theorem akD:aP 46=ut (.code x46):=rfl
theorem akE:aP 47=ut (.code x47):=rfl
theorem akF:aP 48=ut (.code x48):=rfl
theorem akG:aP 49=ut (.code x49):=rfl
theorem akH:aP 50=ut (.code x50):=rfl
theorem akI:aP 51=ut (.code x51):=rfl
theorem akJ:aP 52=ut (.code x52):=rfl
theorem akK:aP 53=ut (.code x53):=rfl
theorem akL:aP 54=ut (.code x54):=rfl
theorem akM:aP 55=ut (.code x55):=rfl
theorem akN:aP 56=ut (.code x56):=rfl
theorem akO:aP 57=ut (.code x57):=rfl
theorem akP:aP 58=ut (.code x58):=rfl
theorem akQ:aP 59=ut (.code x59):=rfl
theorem akR:aP 60=ut (.Hj (Jd 3)):=rfl
theorem akS:aP 61=ut (.kg v6 (fI 3)):=rfl
theorem akT:aP 62=ut (.code x62):=rfl
theorem akU:aP 63=ut (.code x63):=rfl
theorem akV:aP 66=ut (.code x66):=rfl
theorem akW:aP 67=ut (.code x67):=rfl
theorem Vj:aP 71=ut (.code x71):=rfl
theorem Vk:aP 72=ut (.code x72):=rfl
theorem Vl:aP 73=ut (.code x73):=rfl
theorem akX:aP 74=ut (.code x74):=rfl
theorem akY:aP 75=ut (.code x75):=rfl
theorem akZ:aP 76=ut (.code x76):=rfl
theorem ak0:aP 77=ut (.Hj (JK OG)):=rfl
theorem ak1:aP 78=ut (.code x78):=rfl
theorem ak2:aP 79=ut (.code x79):=rfl
theorem ak3:aP 80=ut (.code x80):=rfl
theorem ak4:aP 81=ut (.code x81):=rfl
theorem ak5:aP 82=ut (.code x82):=rfl
theorem Dc:aP 83=ut (.code X'):=rfl
theorem ak6:aP 84=ut (.code x84):=rfl
theorem ak7:aP 85=ut (.code x85):=rfl
theorem ak8:aP 86=ut (.code x86):=rfl
theorem ak9:aP 87=ut (.code x87):=rfl
theorem ak':aP 88=ut (.code x88):=rfl
theorem ala:aP 89=ut (.code x89):=rfl
theorem alb:aP 91=ut (.code x91):=rfl
theorem alc:aP 92=ut (.code x92):=rfl
theorem ald:aP 95=ut (.code x95):=rfl
theorem ale:aP 96=ut (.code x96):=rfl
theorem alf:aP 97=ut (.code x97):=rfl
theorem alg:aP 98=ut (.code x98):=rfl
theorem alh:aP 99=ut (.code x99):=rfl
theorem aaJ:aP 100=ut (.code ah3):=rfl
theorem aaK:aP 101=ut (.code ah4):=rfl
theorem aaL:aP 102=ut (.code ah5):=rfl
theorem aaM:aP 103=ut (.code ah6):=rfl
theorem aaN:aP 104=ut (.code ah7):=rfl
theorem aaO:aP 105=ut (.code ah8):=rfl
theorem aaP:aP 106=ut (.code ah9):=rfl
theorem aaQ:aP 107=ut (.code ah'):=rfl
theorem aaR:aP 108=ut (.code aia):=rfl
theorem J0:aP 109=ut (.code aib):=rfl
theorem aaS:aP 110=ut (.code aic):=rfl
theorem aaT:aP 111=ut (.code aid):=rfl
theorem aaU:aP 116=ut (.code aie):=rfl
theorem aaV:aP 117=ut (.code aif):=rfl
theorem aaW:aP 118=ut (.code aih):=rfl
theorem aaX:aP 119=ut (.code aii):=rfl
theorem aaY:aP 120=ut (.code aij):=rfl
theorem aaZ:aP 121=ut (.code aik):=rfl
theorem QK:aP 125=ut (.code ail):=rfl
theorem aa0:aP 126=ut (.code aim):=rfl
theorem aa1:aP 127=ut (.code ain):=rfl
theorem aa2:aP 128=ut (.code aio):=rfl
theorem QL:aP 129=ut (.code U9):=rfl
theorem J1:aP 130=ut (.code SC):=rfl
theorem aa3:aP 131=ut (.code aip):=rfl
theorem aa4:aP 132=ut (.code aiq):=rfl
theorem QM:aP 135=ut (.code YA):=rfl
theorem QN:aP 136=ut (.code YC):=rfl
theorem aa5:aP 137=ut (.code air):=rfl
theorem J2:aP 138=ut (.code ais):=rfl
theorem aa6:aP 139=ut (.code ait):=rfl
theorem aa7:aP 140=ut (.code aiu):=rfl
theorem aa8:aP 141=ut (.code aiv):=rfl
theorem aa9:aP 142=ut (.code aiw):=rfl
theorem aa':aP 143=ut (.code aix):=rfl
theorem aba:aP 144=ut (.code aiy):=rfl
theorem abb:aP 145=ut (.code aiz):=rfl
theorem QO:aP 146=ut (.code aiA):=rfl
theorem abc:aP 147=ut (.Hj Jb):=rfl
theorem abd:aP 148=ut (.code aiB):=rfl
theorem abe:aP 149=ut (.code aiC):=rfl
theorem abf:aP 150=ut (.code aiD):=rfl
theorem abg:aP 151=ut (.code aiE):=rfl
theorem abh:aP 152=ut (.code aiF):=rfl
theorem abi:aP 153=ut (.code aiG):=rfl
theorem abj:aP 156=ut (.code aiH):=rfl
theorem abk:aP 157=ut (.code aiI):=rfl
theorem abl:aP 158=ut (.code aiJ):=rfl
theorem abm:aP 159=ut (.code aiK):=rfl
theorem abn:aP 160=ut (.code aiL):=rfl
theorem abo:aP 161=ut (.code aiM):=rfl
theorem abp:aP 162=ut (.code aiN):=rfl
theorem abq:aP 163=ut (.code aiO):=rfl
theorem abr:aP 164=ut (.code aiP):=rfl
theorem abt:aP 165=ut (.code aiQ):=rfl
theorem abu:aP 166=ut (.code aiR):=rfl
theorem abv:aP 167=ut (.code aiS):=rfl
theorem abw:aP 168=ut (.code aiT):=rfl
theorem abx:aP 172=ut (.code aiU):=rfl
theorem aby:aP 173=ut (.code aiV):=rfl
theorem abz:aP 174=ut (.code aiW):=rfl
theorem abA:aP 175=ut (.code aiX):=rfl
theorem abB:aP 176=ut (.code aiY):=rfl
theorem abC:aP 177=ut (.code aiZ):=rfl
theorem abD:aP 179=ut (.code ai0):=rfl
theorem QP:aP 180=ut (.code ai1):=rfl
theorem abE:aP 181=ut (.code ai2):=rfl
theorem abF:aP 182=ut (.code ai3):=rfl
theorem abG:aP 183=ut (.code ai4):=rfl
theorem abH:aP 184=ut (.code ai5):=rfl
theorem abI:aP 185=ut (.code ai6):=rfl
theorem QQ:aP 186=ut (.code U'):=rfl
theorem Ez:aP 187=ut (.code O6):=rfl
theorem J3:aP 188=ut (.code SD):=rfl
theorem abJ:aP 200=ut (.code ai7):=rfl
theorem J4:aP 201=ut (.code ai8):=rfl
theorem abK:aP 202=ut (.code Zo):=rfl
theorem abL:aP 203=ut (.code ai9):=rfl
theorem abM:aP 204=ut (.code ai'):=rfl
theorem abN:aP 205=ut (.code aja):=rfl
theorem abO:aP 206=ut (.code ajb):=rfl
theorem QR:aP 207=ut (.code Zu):=rfl
theorem abP:aP 208=ut (.code ajc):=rfl
theorem abQ:aP 209=ut (.kg v6 (fI 3)):=rfl
theorem abR:aP 210=ut (.kg v6 (fI 3)):=rfl
theorem abS:aP 211=ut (.kg v6 (fI 5)):=rfl
theorem abT:aP 212=ut (.kg v6 (fI 1)):=rfl
theorem abU:aP 214=ut (.code ajd):=rfl
theorem abV:aP 215=ut (.code aje):=rfl
theorem abW:aP 216=ut (.code ajf):=rfl
theorem abX:aP 217=ut (.code ajg):=rfl
theorem abY:aP 218=ut (.code ajh):=rfl
theorem abZ:aP 219=ut (.code aji):=rfl
theorem ab0:aP 220=ut (.code ajj):=rfl
theorem ab1:aP 222=ut (.code ajk):=rfl
theorem ab2:aP 223=ut (.code ajl):=rfl
theorem ab3:aP 224=ut (.code ajm):=rfl
theorem ab4:aP 227=ut (.code ajn):=rfl
theorem ab5:aP 228=ut (.code ajo):=rfl
theorem ab6:aP 229=ut (.code ajp):=rfl
theorem ab7:aP 230=ut (.code ajq):=rfl
theorem ab8:aP 232=ut (.code ajr):=rfl
theorem ab9:aP 233=ut (.code ajs):=rfl
theorem ab':aP 234=ut (.code ajt):=rfl
theorem aca:aP 235=ut (.code aju):=rfl
theorem acb:aP 236=ut (.code ZP):=rfl
theorem acd:aP 237=ut (.code ajv):=rfl
theorem ace:aP 238=ut (.code ajw):=rfl
theorem acf:aP 239=ut (.code ajx):=rfl
theorem acg:aP 240=ut (.code ajy):=rfl
theorem ach:aP 246=ut (.code ajz):=rfl
theorem aci:aP 247=ut (.code ajA):=rfl
theorem acj:aP 248=ut (.code ajB):=rfl
theorem ack:aP 249=ut (.code ajC):=rfl
theorem acm:aP 250=ut (.code ajD):=rfl
theorem J5:aP 251=ut (.code ajE):=rfl
theorem acn:aP 252=ut (.code ajF):=rfl
theorem QS:aP 253=ut (.code ajG):=rfl
theorem J6:aP 254=ut (.code ajH):=rfl
theorem aco:aP 255=ut (.code ajI):=rfl
theorem acp:aP 256=ut (.code ajJ):=rfl
theorem acq:aP 257=ut (.code ajK):=rfl
theorem acr:aP 258=ut (.code ajL):=rfl
theorem acs:aP 267=ut (.code ajM):=rfl
theorem acu:aP 268=ut (.code ajN):=rfl
theorem acv:aP 269=ut (.code ajO):=rfl
theorem acw:aP 270=ut (.code ajP):=rfl
theorem acx:aP 271=ut (.code ajQ):=rfl
theorem acy:aP 272=ut (.code ajR):=rfl
theorem acz:aP 273=ut (.code ajS):=rfl
theorem acA:aP 274=ut (.code ajT):=rfl
theorem acB:aP 275=ut (.code ajU):=rfl
theorem acC:aP 276=ut (.code ajV):=rfl
theorem J7:aP 278=ut (.code SF):=rfl
theorem QT:aP 279=ut (.code ajW):=rfl
theorem acD:aP 280=ut (.code ajX):=rfl
theorem QU:aP 281=ut (.code aak):=rfl
theorem acE:aP 282=ut (.code ajY):=rfl
theorem QV:aP 283=ut (.code aan):=rfl
theorem acF:aP 284=ut (.code ajZ):=rfl
theorem acG:aP 285=ut (.code aj0):=rfl
theorem acH:aP 289=ut (.kg v6 As):=rfl
theorem acI:aP 290=ut (.code aj1):=rfl
theorem acJ:aP 291=ut (.code aj2):=rfl
theorem acK:aP 292=ut (.code aj3):=rfl
theorem acL:aP 293=ut (.code aj4):=rfl
theorem acM:aP 294=ut (.code aj5):=rfl
theorem QW:aP 295=ut (.code aj6):=rfl
theorem acN:aP 296=ut (.code aj7):=rfl
theorem acO:aP 297=ut (.code aj8):=rfl
theorem QX:aP 298=ut (.code Va):=rfl
theorem acP:aP 300=ut (.code aj9):=rfl
theorem acQ:aP 301=ut (.kg v6 (fI 1)):=rfl
end Go.Proofs.YtbgoiokedpjgbaaGreat
