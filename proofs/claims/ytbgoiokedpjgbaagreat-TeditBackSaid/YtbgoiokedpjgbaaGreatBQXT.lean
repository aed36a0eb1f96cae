/- The table of the seat's functions. Printed by a program. -/
import Derived.Test.YtbgoiokedpjgbaaGreatBQX1
import Derived.Test.YtbgoiokedpjgbaaGreatBQX2
import Derived.Test.YtbgoiokedpjgbaaGreatBQIN
import Derived.Test.YtbgoiokedpjgbaaGreatBQIO
import Derived.Test.YtbgoiokedpjgbaaGreatBQIC
import Derived.Test.YtbgoiokedpjgbaaGreatChecked
open Option renaming some->ut
open Bool renaming false->v6
set_option maxRecDepth 100000
namespace Go.Proofs.YtbgoiokedpjgbaaGreat
open Go.Vm
theorem lF:Go.Proofs.Tryz.prog.follows .mixedOrders=true:=Go.Proofs.Tryz.checked.mixed
theorem akz:tq Go.Proofs.Tryz.prog 32 (.kf v6 (fG 1)):=⟨rfl,m7 lF (zero:=[.int .i64 0]) (by decide+kernel)⟩
theorem akA:tq Go.Proofs.Tryz.prog 60 (.G6 (IT 3)):=akv
theorem akB:tq Go.Proofs.Tryz.prog 61 (.kf v6 (fG 3)):=⟨rfl,m7 lF (zero:=[.int .i64 0,.int .i64 0,.int .i64 0]) (by decide+kernel)⟩
theorem akC:tq Go.Proofs.Tryz.prog 77 (.G6 (Jp On)):=akx
theorem aaE:tq Go.Proofs.Tryz.prog 147 (.G6 IQ):=aky
theorem aaF:tq Go.Proofs.Tryz.prog 209 (.kf v6 (fG 3)):=⟨rfl,m7 lF (zero:=[.int .i64 0,.int .i64 0,.int .i64 0]) (by decide+kernel)⟩
theorem aaG:tq Go.Proofs.Tryz.prog 210 (.kf v6 (fG 3)):=⟨rfl,m7 lF (zero:=[.int .i64 0,.int .i64 0,.int .i64 0]) (by decide+kernel)⟩
theorem aaH:tq Go.Proofs.Tryz.prog 211 (.kf v6 (fG 5)):=⟨rfl,m7 lF (zero:=[.int .i64 0,.int .i64 0,.int .i64 0,.int .i64 0,.int .i64 0]) (by decide+kernel)⟩
theorem aaI:tq Go.Proofs.Tryz.prog 212 (.kf v6 (fG 1)):=⟨rfl,m7 lF (zero:=[.bool v6]) (by decide+kernel)⟩
theorem aaJ:tq Go.Proofs.Tryz.prog 289 (.kf v6 Ai):=⟨rfl,N6 Go.Proofs.Tryz.func289 (by kernel_rfl) (by kernel_rfl) (by kernel_rfl) (by kernel_rfl)⟩
theorem aaK:tq Go.Proofs.Tryz.prog 301 (.kf v6 (fG 1)):=⟨rfl,m7 lF (zero:=[.int .i64 0]) (by decide+kernel)⟩
noncomputable def apC:TT:= .node 148 (.node 80 (.node 45 (.node 27 (.node 18 (.node 14 (.node 8 (.leaf 5 (.code x5)) (.node 10 (.leaf 8 (.code x8)) (.leaf 10 (.code x10)))) (.node 16 (.node 15 (.leaf 14 (.code x14)) (.leaf 15 (.code x15))) (.node 17 (.leaf 16 (.code x16)) (.leaf 17 (.code x17))))) (.node 22 (.node 19 (.leaf 18 (.code x18)) (.node 20 (.leaf 19 (.code x19)) (.leaf 20 (.code x20)))) (.node 24 (.node 23 (.leaf 22 (.code x22)) (.leaf 23 (.code x23))) (.node 25 (.leaf 24 (.code x24)) (.leaf 25 (.code x25)))))) (.node 35 (.node 31 (.node 28 (.leaf 27 (.code x27)) (.node 29 (.leaf 28 (.code x28)) (.leaf 29 (.code x29)))) (.node 33 (.node 32 (.leaf 31 (.code x31)) (.leaf 32 (.kf v6 (fG 1)))) (.node 34 (.leaf 33 (.code x33)) (.leaf 34 (.code x34))))) (.node 41 (.node 37 (.node 36 (.leaf 35 (.code x35)) (.leaf 36 (.code x36))) (.node 39 (.leaf 37 (.code x37)) (.leaf 39 (.code x39)))) (.node 43 (.node 42 (.leaf 41 (.code x41)) (.leaf 42 (.code x42))) (.node 44 (.leaf 43 (.code x43)) (.leaf 44 (.code x44))))))) (.node 62 (.node 52 (.node 48 (.node 46 (.leaf 45 (.code x45)) (.node 47 (.leaf 46 (.code x46)) (.leaf 47 (.code x47)))) (.node 50 (.node 49 (.leaf 48 (.code x48)) (.leaf 49 (.code x49))) (.node 51 (.leaf 50 (.code x50)) (.leaf 51 (.code x51))))) (.node 58 (.node 53 (.leaf 52 (.code x52)) (.node 57 (.leaf 53 (.code x53)) (.leaf 57 (.code x57)))) (.node 60 (.node 59 (.leaf 58 (.code x58)) (.leaf 59 (.code x59))) (.node 61 (.leaf 60 (.G6 (IT 3))) (.leaf 61 (.kf v6 (fG 3))))))) (.node 72 (.node 67 (.node 63 (.leaf 62 (.code x62)) (.node 66 (.leaf 63 (.code x63)) (.leaf 66 (.code x66)))) (.node 70 (.node 69 (.leaf 67 (.code x67)) (.leaf 69 (.code x69))) (.node 71 (.leaf 70 (.code x70)) (.leaf 71 (.code x71))))) (.node 76 (.node 74 (.node 73 (.leaf 72 (.code x72)) (.leaf 73 (.code x73))) (.node 75 (.leaf 74 (.code x74)) (.leaf 75 (.code x75)))) (.node 78 (.node 77 (.leaf 76 (.code x76)) (.leaf 77 (.G6 (Jp On)))) (.node 79 (.leaf 78 (.code x78)) (.leaf 79 (.code x79)))))))) (.node 111 (.node 95 (.node 87 (.node 83 (.node 81 (.leaf 80 (.code x80)) (.node 82 (.leaf 81 (.code x81)) (.leaf 82 (.code x82)))) (.node 85 (.node 84 (.leaf 83 (.code X')) (.leaf 84 (.code x84))) (.node 86 (.leaf 85 (.code x85)) (.leaf 86 (.code x86))))) (.node 91 (.node 88 (.leaf 87 (.code x87)) (.node 89 (.leaf 88 (.code x88)) (.leaf 89 (.code x89)))) (.node 93 (.node 92 (.leaf 91 (.code x91)) (.leaf 92 (.code x92))) (.node 94 (.leaf 93 (.code x93)) (.leaf 94 (.code x94)))))) (.node 102 (.node 98 (.node 96 (.leaf 95 (.code x95)) (.node 97 (.leaf 96 (.code x96)) (.leaf 97 (.code x97)))) (.node 100 (.node 99 (.leaf 98 (.code x98)) (.leaf 99 (.code x99))) (.node 101 (.leaf 100 (.code aij)) (.leaf 101 (.code aik))))) (.node 106 (.node 104 (.node 103 (.leaf 102 (.code ail)) (.leaf 103 (.code aim))) (.node 105 (.leaf 104 (.code ain)) (.leaf 105 (.code aio)))) (.node 109 (.node 108 (.leaf 106 (.code aip)) (.leaf 108 (.code aiq))) (.node 110 (.leaf 109 (.code air)) (.leaf 110 (.code ais))))))) (.node 131 (.node 124 (.node 118 (.node 116 (.leaf 111 (.code ait)) (.node 117 (.leaf 116 (.code aiu)) (.leaf 117 (.code aiv)))) (.node 120 (.node 119 (.leaf 118 (.code aiw)) (.leaf 119 (.code aix))) (.node 121 (.leaf 120 (.code aiy)) (.leaf 121 (.code aiz))))) (.node 127 (.node 125 (.leaf 124 (.code aiA)) (.node 126 (.leaf 125 (.code aiB)) (.leaf 126 (.code aiC)))) (.node 129 (.node 128 (.leaf 127 (.code aiD)) (.leaf 128 (.code aiE))) (.node 130 (.leaf 129 (.code U8)) (.leaf 130 (.code Sw)))))) (.node 140 (.node 136 (.node 132 (.leaf 131 (.code aiF)) (.node 135 (.leaf 132 (.code aiG)) (.leaf 135 (.code YA)))) (.node 138 (.node 137 (.leaf 136 (.code YC)) (.leaf 137 (.code aiH))) (.node 139 (.leaf 138 (.code aiI)) (.leaf 139 (.code aiJ))))) (.node 144 (.node 142 (.node 141 (.leaf 140 (.code aiK)) (.leaf 141 (.code aiL))) (.node 143 (.leaf 142 (.code aiM)) (.leaf 143 (.code aiN)))) (.node 146 (.node 145 (.leaf 144 (.code aiO)) (.leaf 145 (.code aiP))) (.node 147 (.leaf 146 (.code aiQ)) (.leaf 147 (.G6 IQ))))))))) (.node 223 (.node 182 (.node 162 (.node 155 (.node 151 (.node 149 (.leaf 148 (.code aiR)) (.node 150 (.leaf 149 (.code aiS)) (.leaf 150 (.code aiT)))) (.node 153 (.node 152 (.leaf 151 (.code aiU)) (.leaf 152 (.code aiV))) (.node 154 (.leaf 153 (.code aiW)) (.leaf 154 (.code aiX))))) (.node 158 (.node 156 (.leaf 155 (.code aiY)) (.node 157 (.leaf 156 (.code aiZ)) (.leaf 157 (.code ai0)))) (.node 160 (.node 159 (.leaf 158 (.code ai1)) (.leaf 159 (.code ai2))) (.node 161 (.leaf 160 (.code ai3)) (.leaf 161 (.code ai4)))))) (.node 173 (.node 165 (.node 163 (.leaf 162 (.code ai5)) (.node 164 (.leaf 163 (.code ai6)) (.leaf 164 (.code ai7)))) (.node 168 (.node 166 (.leaf 165 (.code ai8)) (.leaf 166 (.code ai9))) (.node 172 (.leaf 168 (.code ai')) (.leaf 172 (.code aja))))) (.node 177 (.node 175 (.node 174 (.leaf 173 (.code ajb)) (.leaf 174 (.code ajc))) (.node 176 (.leaf 175 (.code ajd)) (.leaf 176 (.code aje)))) (.node 180 (.node 179 (.leaf 177 (.code ajf)) (.leaf 179 (.code ajg))) (.node 181 (.leaf 180 (.code ajh)) (.leaf 181 (.code aji))))))) (.node 207 (.node 200 (.node 185 (.node 183 (.leaf 182 (.code ajj)) (.node 184 (.leaf 183 (.code ajk)) (.leaf 184 (.code ajl)))) (.node 187 (.node 186 (.leaf 185 (.code ajm)) (.leaf 186 (.code U9))) (.node 188 (.leaf 187 (.code OQ)) (.leaf 188 (.code Sx))))) (.node 203 (.node 201 (.leaf 200 (.code ajn)) (.node 202 (.leaf 201 (.code ajo)) (.leaf 202 (.code Zp)))) (.node 205 (.node 204 (.leaf 203 (.code ajp)) (.leaf 204 (.code ajq))) (.node 206 (.leaf 205 (.code ajr)) (.leaf 206 (.code ajs)))))) (.node 215 (.node 210 (.node 208 (.leaf 207 (.code Zv)) (.node 209 (.leaf 208 (.code ajt)) (.leaf 209 (.kf v6 (fG 3))))) (.node 212 (.node 211 (.leaf 210 (.kf v6 (fG 3))) (.leaf 211 (.kf v6 (fG 5)))) (.node 214 (.leaf 212 (.kf v6 (fG 1))) (.leaf 214 (.code aju))))) (.node 219 (.node 217 (.node 216 (.leaf 215 (.code ajv)) (.leaf 216 (.code ajw))) (.node 218 (.leaf 217 (.code ajx)) (.leaf 218 (.code ajy)))) (.node 221 (.node 220 (.leaf 219 (.code ajz)) (.leaf 220 (.code ajA))) (.node 222 (.leaf 221 (.code ajB)) (.leaf 222 (.code ajC)))))))) (.node 268 (.node 240 (.node 233 (.node 228 (.node 224 (.leaf 223 (.code ajD)) (.node 227 (.leaf 224 (.code ajE)) (.leaf 227 (.code ajF)))) (.node 230 (.node 229 (.leaf 228 (.code ajG)) (.leaf 229 (.code ajH))) (.node 232 (.leaf 230 (.code ajI)) (.leaf 232 (.code ajJ))))) (.node 236 (.node 234 (.leaf 233 (.code ajK)) (.node 235 (.leaf 234 (.code ajL)) (.leaf 235 (.code ajM)))) (.node 238 (.node 237 (.leaf 236 (.code ZR)) (.leaf 237 (.code ajN))) (.node 239 (.leaf 238 (.code ajO)) (.leaf 239 (.code ajP)))))) (.node 252 (.node 248 (.node 246 (.leaf 240 (.code ajQ)) (.node 247 (.leaf 246 (.code ajR)) (.leaf 247 (.code ajS)))) (.node 250 (.node 249 (.leaf 248 (.code ajT)) (.leaf 249 (.code ajU))) (.node 251 (.leaf 250 (.code ajV)) (.leaf 251 (.code ajW))))) (.node 256 (.node 254 (.node 253 (.leaf 252 (.code ajX)) (.leaf 253 (.code ajY))) (.node 255 (.leaf 254 (.code ajZ)) (.leaf 255 (.code aj0)))) (.node 258 (.node 257 (.leaf 256 (.code aj1)) (.leaf 257 (.code aj2))) (.node 267 (.leaf 258 (.code aj3)) (.leaf 267 (.code aj4))))))) (.node 283 (.node 275 (.node 271 (.node 269 (.leaf 268 (.code aj5)) (.node 270 (.leaf 269 (.code aj6)) (.leaf 270 (.code aj7)))) (.node 273 (.node 272 (.leaf 271 (.code aj8)) (.leaf 272 (.code aj9))) (.node 274 (.leaf 273 (.code aj')) (.leaf 274 (.code aka))))) (.node 279 (.node 276 (.leaf 275 (.code akb)) (.node 278 (.leaf 276 (.code akc)) (.leaf 278 (.code Sy)))) (.node 281 (.node 280 (.leaf 279 (.code akd)) (.leaf 280 (.code ake))) (.node 282 (.leaf 281 (.code aam)) (.leaf 282 (.code akf)))))) (.node 293 (.node 289 (.node 284 (.leaf 283 (.code aap)) (.node 285 (.leaf 284 (.code akg)) (.leaf 285 (.code akh)))) (.node 291 (.node 290 (.leaf 289 (.kf v6 Ai)) (.leaf 290 (.code aki))) (.node 292 (.leaf 291 (.code akj)) (.leaf 292 (.code akk))))) (.node 297 (.node 295 (.node 294 (.leaf 293 (.code akl)) (.leaf 294 (.code akm))) (.node 296 (.leaf 295 (.code akn)) (.leaf 296 (.code ako)))) (.node 300 (.node 298 (.leaf 297 (.code akp)) (.leaf 298 (.code U'))) (.node 301 (.leaf 300 (.code akq)) (.leaf 301 (.kf v6 (fG 1))))))))))
theorem Qv:apC.All (tq Go.Proofs.Tryz.prog):=⟨⟨⟨⟨⟨⟨⟨aps,⟨apt,ag'⟩⟩,⟨⟨aha,ahb⟩,⟨ahc,ahd⟩⟩⟩,⟨⟨ahe,⟨ahf,ahg⟩⟩,⟨⟨ahh,ahi⟩,⟨ahj,ahk⟩⟩⟩⟩,⟨⟨⟨ahl,⟨ahm,ahn⟩⟩,⟨⟨aho,akz⟩,⟨ahp,ahq⟩⟩⟩,⟨⟨⟨ahr,ahs⟩,⟨aht,ahu⟩⟩,⟨⟨ahv,ahw⟩,⟨ahx,ahy⟩⟩⟩⟩⟩,⟨⟨⟨⟨ahz,⟨ahA,ahB⟩⟩,⟨⟨ahC,ahD⟩,⟨ahE,ahF⟩⟩⟩,⟨⟨ahG,⟨ahH,ahI⟩⟩,⟨⟨ahJ,ahK⟩,⟨akA,akB⟩⟩⟩⟩,⟨⟨⟨ahL,⟨ahM,ahN⟩⟩,⟨⟨ahO,ahQ⟩,⟨ahR,ahS⟩⟩⟩,⟨⟨⟨ahT,ahU⟩,⟨ahV,ahW⟩⟩,⟨⟨ahX,akC⟩,⟨ahY,ahZ⟩⟩⟩⟩⟩⟩,⟨⟨⟨⟨⟨ah0,⟨ah1,ah2⟩⟩,⟨⟨ah3,ah4⟩,⟨ah5,ah6⟩⟩⟩,⟨⟨ah7,⟨ah8,ah9⟩⟩,⟨⟨ah',aia⟩,⟨aib,aic⟩⟩⟩⟩,⟨⟨⟨aid,⟨aie,aif⟩⟩,⟨⟨aih,aii⟩,⟨Ya,Yb⟩⟩⟩,⟨⟨⟨Yc,Yd⟩,⟨Ye,Yf⟩⟩,⟨⟨Yg,Yh⟩,⟨Yi,Yj⟩⟩⟩⟩⟩,⟨⟨⟨⟨Yk,⟨Yl,Ym⟩⟩,⟨⟨Yn,Yo⟩,⟨Yp,Yq⟩⟩⟩,⟨⟨Yr,⟨Ys,Yt⟩⟩,⟨⟨Yu,Yv⟩,⟨Yw,Yx⟩⟩⟩⟩,⟨⟨⟨Yy,⟨Yz,YB⟩⟩,⟨⟨YD,YE⟩,⟨YF,YG⟩⟩⟩,⟨⟨⟨YH,YI⟩,⟨YJ,YK⟩⟩,⟨⟨YL,YM⟩,⟨YN,aaE⟩⟩⟩⟩⟩⟩⟩,⟨⟨⟨⟨⟨⟨YO,⟨YP,YQ⟩⟩,⟨⟨YR,YS⟩,⟨YT,YU⟩⟩⟩,⟨⟨YV,⟨YW,YX⟩⟩,⟨⟨YY,YZ⟩,⟨Y0,Y1⟩⟩⟩⟩,⟨⟨⟨Y2,⟨Y3,Y4⟩⟩,⟨⟨Y5,Y6⟩,⟨Y7,Y8⟩⟩⟩,⟨⟨⟨Y9,Y'⟩,⟨Za,Zb⟩⟩,⟨⟨Zc,Zd⟩,⟨Ze,Zf⟩⟩⟩⟩⟩,⟨⟨⟨⟨Zg,⟨Zh,Zi⟩⟩,⟨⟨Zj,Zk⟩,⟨Zl,Zm⟩⟩⟩,⟨⟨Zn,⟨Zo,Zq⟩⟩,⟨⟨Zr,Zs⟩,⟨Zt,Zu⟩⟩⟩⟩,⟨⟨⟨Zw,⟨Zx,aaF⟩⟩,⟨⟨aaG,aaH⟩,⟨aaI,Zy⟩⟩⟩,⟨⟨⟨Zz,ZA⟩,⟨ZB,ZC⟩⟩,⟨⟨ZD,ZE⟩,⟨ZF,ZG⟩⟩⟩⟩⟩⟩,⟨⟨⟨⟨⟨ZH,⟨ZI,ZJ⟩⟩,⟨⟨ZK,ZL⟩,⟨ZM,ZN⟩⟩⟩,⟨⟨ZO,⟨ZP,ZQ⟩⟩,⟨⟨ZS,ZT⟩,⟨ZU,ZV⟩⟩⟩⟩,⟨⟨⟨ZW,⟨ZX,ZY⟩⟩,⟨⟨ZZ,Z0⟩,⟨Z1,Z2⟩⟩⟩,⟨⟨⟨Z3,Z4⟩,⟨Z5,Z6⟩⟩,⟨⟨Z7,Z8⟩,⟨Z9,Z'⟩⟩⟩⟩⟩,⟨⟨⟨⟨aaa,⟨aab,aac⟩⟩,⟨⟨aad,aae⟩,⟨aaf,aag⟩⟩⟩,⟨⟨aah,⟨aai,aaj⟩⟩,⟨⟨aak,aal⟩,⟨aan,aao⟩⟩⟩⟩,⟨⟨⟨aaq,⟨aar,aas⟩⟩,⟨⟨aaJ,aat⟩,⟨aau,aav⟩⟩⟩,⟨⟨⟨aaw,aax⟩,⟨aay,aaz⟩⟩,⟨⟨aaA,aaB⟩,⟨aaC,aaK⟩⟩⟩⟩⟩⟩⟩⟩
noncomputable def aO:mX:=apC.get
theorem afT:aO 5=ut (.code x5):=rfl
theorem apD:aO 8=ut (.code x8):=rfl
theorem akD:aO 10=ut (.code x10):=rfl
theorem akE:aO 14=ut (.code x14):=rfl
theorem akF:aO 15=ut (.code x15):=rfl
theorem akG:aO 16=ut (.code x16):=rfl
theorem akH:aO 17=ut (.code x17):=rfl
theorem akI:aO 18=ut (.code x18):=rfl
theorem akJ:aO 19=ut (.code x19):=rfl
theorem akK:aO 20=ut (.code x20):=rfl
theorem akL:aO 22=ut (.code x22):=rfl
theorem akM:aO 23=ut (.code x23):=rfl
theorem akN:aO 24=ut (.code x24):=rfl
theorem akO:aO 25=ut (.code x25):=rfl
theorem akP:aO 27=ut (.code x27):=rfl
theorem akQ:aO 28=ut (.code x28):=rfl
theorem Vf:aO 29=ut (.code x29):=rfl
theorem akR:aO 31=ut (.code x31):=rfl
theorem akS:aO 32=ut (.kf v6 (fG 1)):=rfl
theorem akT:aO 33=ut (.code x33):=rfl
theorem Vg:aO 34=ut (.code x34):=rfl
theorem akU:aO 35=ut (.code x35):=rfl
theorem Vh:aO 36=ut (.code x36):=rfl
theorem akV:aO 37=ut (.code x37):=rfl
theorem akW:aO 39=ut (.code x39):=rfl
theorem akX:aO 41=ut (.code x41):=rfl
theorem akY:aO 42=ut (.code x42):=rfl
theorem akZ:aO 43=ut (.code x43):=rfl
theorem ak0:aO 44=ut (.code x44):=rfl
theorem ak1:aO 45=ut (.code x45):=rfl
theorem ak2:aO 46=ut (.code x46):=rfl
theorem ak3:aO 47=ut (.code x47):=rfl
theorem ak4:aO 48=ut (.code x48):=rfl
theorem ak5:aO 49=ut (.code x49):=rfl
theorem ak6:aO 50=ut (.code x50):=rfl
theorem ak7:aO 51=ut (.code x51):=rfl
theorem ak8:aO 52=ut (.code x52):=rfl
theorem ak9:aO 53=ut (.code x53):=rfl
theorem ak':aO 57=ut (.code x57):=rfl
theorem ala:aO 58=ut (.code x58):=rfl
theorem alb:aO 59=ut (.code x59):=rfl
theorem alc:aO 60=ut (.G6 (IT 3)):=rfl
theorem ald:aO 61=ut (.kf v6 (fG 3)):=rfl
theorem ale:aO 62=ut (.code x62):=rfl
theorem alf:aO 63=ut (.code x63):=rfl
theorem alg:aO 66=ut (.code x66):=rfl
theorem alh:aO 67=ut (.code x67):=rfl
theorem ali:aO 69=ut (.code x69):=rfl
theorem alj:aO 70=ut (.code x70):=rfl
theorem Vi:aO 71=ut (.code x71):=rfl
theorem Vj:aO 72=ut (.code x72):=rfl
theorem Vk:aO 73=ut (.code x73):=rfl
theorem alk:aO 74=ut (.code x74):=rfl
theorem alm:aO 75=ut (.code x75):=rfl
theorem aln:aO 76=ut (.code x76):=rfl
theorem alo:aO 77=ut (.G6 (Jp On)):=rfl
theorem alp:aO 78=ut (.code x78):=rfl
theorem alq:aO 79=ut (.code x79):=rfl
theorem alr:aO 80=ut (.code x80):=rfl
theorem als:aO 81=ut (.code x81):=rfl
theorem alu:aO 82=ut (.code x82):=rfl
theorem C0:aO 83=ut (.code X'):=rfl
theorem alv:aO 84=ut (.code x84):=rfl
theorem alw:aO 85=ut (.code x85):=rfl
theorem alx:aO 86=ut (.code x86):=rfl
theorem aly:aO 87=ut (.code x87):=rfl
theorem alz:aO 88=ut (.code x88):=rfl
theorem alA:aO 89=ut (.code x89):=rfl
theorem alB:aO 91=ut (.code x91):=rfl
theorem alC:aO 92=ut (.code x92):=rfl
theorem alD:aO 93=ut (.code x93):=rfl
theorem alE:aO 94=ut (.code x94):=rfl
theorem alF:aO 95=ut (.code x95):=rfl
theorem alG:aO 96=ut (.code x96):=rfl
theorem alH:aO 97=ut (.code x97):=rfl
theorem alI:aO 98=ut (.code x98):=rfl
theorem alJ:aO 99=ut (.code x99):=rfl
theorem aaL:aO 100=ut (.code aij):=rfl
theorem aaM:aO 101=ut (.code aik):=rfl
theorem aaN:aO 102=ut (.code ail):=rfl
theorem aaO:aO 103=ut (.code aim):=rfl
theorem aaP:aO 104=ut (.code ain):=rfl
theorem aaQ:aO 105=ut (.code aio):=rfl
theorem aaR:aO 106=ut (.code aip):=rfl
theorem aaS:aO 108=ut (.code aiq):=rfl
theorem JF:aO 109=ut (.code air):=rfl
theorem aaT:aO 110=ut (.code ais):=rfl
theorem aaU:aO 111=ut (.code ait):=rfl
theorem aaV:aO 116=ut (.code aiu):=rfl
theorem aaW:aO 117=ut (.code aiv):=rfl
theorem aaX:aO 118=ut (.code aiw):=rfl
theorem aaY:aO 119=ut (.code aix):=rfl
theorem aaZ:aO 120=ut (.code aiy):=rfl
theorem aa0:aO 121=ut (.code aiz):=rfl
theorem aa1:aO 124=ut (.code aiA):=rfl
theorem Qw:aO 125=ut (.code aiB):=rfl
theorem aa2:aO 126=ut (.code aiC):=rfl
theorem aa3:aO 127=ut (.code aiD):=rfl
theorem aa4:aO 128=ut (.code aiE):=rfl
theorem Qx:aO 129=ut (.code U8):=rfl
theorem JG:aO 130=ut (.code Sw):=rfl
theorem aa5:aO 131=ut (.code aiF):=rfl
theorem aa6:aO 132=ut (.code aiG):=rfl
theorem Qy:aO 135=ut (.code YA):=rfl
theorem Qz:aO 136=ut (.code YC):=rfl
theorem aa7:aO 137=ut (.code aiH):=rfl
theorem JH:aO 138=ut (.code aiI):=rfl
theorem aa8:aO 139=ut (.code aiJ):=rfl
theorem aa9:aO 140=ut (.code aiK):=rfl
theorem aa':aO 141=ut (.code aiL):=rfl
theorem aba:aO 142=ut (.code aiM):=rfl
theorem abb:aO 143=ut (.code aiN):=rfl
theorem abc:aO 144=ut (.code aiO):=rfl
theorem abd:aO 145=ut (.code aiP):=rfl
theorem QA:aO 146=ut (.code aiQ):=rfl
theorem abe:aO 147=ut (.G6 IQ):=rfl
theorem abf:aO 148=ut (.code aiR):=rfl
theorem abg:aO 149=ut (.code aiS):=rfl
theorem abh:aO 150=ut (.code aiT):=rfl
theorem abi:aO 151=ut (.code aiU):=rfl
theorem abj:aO 152=ut (.code aiV):=rfl
theorem abk:aO 153=ut (.code aiW):=rfl
theorem abl:aO 154=ut (.code aiX):=rfl
theorem abm:aO 155=ut (.code aiY):=rfl
theorem abn:aO 156=ut (.code aiZ):=rfl
theorem abo:aO 157=ut (.code ai0):=rfl
theorem abp:aO 158=ut (.code ai1):=rfl
theorem abq:aO 159=ut (.code ai2):=rfl
theorem abr:aO 160=ut (.code ai3):=rfl
theorem abt:aO 161=ut (.code ai4):=rfl
theorem abu:aO 162=ut (.code ai5):=rfl
theorem abv:aO 163=ut (.code ai6):=rfl
theorem abw:aO 164=ut (.code ai7):=rfl
theorem abx:aO 165=ut (.code ai8):=rfl
theorem aby:aO 166=ut (.code ai9):=rfl
theorem abz:aO 168=ut (.code ai'):=rfl
theorem abA:aO 172=ut (.code aja):=rfl
theorem abB:aO 173=ut (.code ajb):=rfl
theorem abC:aO 174=ut (.code ajc):=rfl
theorem abD:aO 175=ut (.code ajd):=rfl
theorem abE:aO 176=ut (.code aje):=rfl
theorem abF:aO 177=ut (.code ajf):=rfl
theorem abG:aO 179=ut (.code ajg):=rfl
theorem QB:aO 180=ut (.code ajh):=rfl
theorem abH:aO 181=ut (.code aji):=rfl
theorem abI:aO 182=ut (.code ajj):=rfl
theorem abJ:aO 183=ut (.code ajk):=rfl
theorem abK:aO 184=ut (.code ajl):=rfl
theorem abL:aO 185=ut (.code ajm):=rfl
theorem QC:aO 186=ut (.code U9):=rfl
theorem Eo:aO 187=ut (.code OQ):=rfl
theorem JI:aO 188=ut (.code Sx):=rfl
theorem abM:aO 200=ut (.code ajn):=rfl
theorem JJ:aO 201=ut (.code ajo):=rfl
theorem abN:aO 202=ut (.code Zp):=rfl
theorem abO:aO 203=ut (.code ajp):=rfl
theorem abP:aO 204=ut (.code ajq):=rfl
theorem abQ:aO 205=ut (.code ajr):=rfl
theorem abR:aO 206=ut (.code ajs):=rfl
theorem QD:aO 207=ut (.code Zv):=rfl
theorem abS:aO 208=ut (.code ajt):=rfl
theorem abT:aO 209=ut (.kf v6 (fG 3)):=rfl
theorem abU:aO 210=ut (.kf v6 (fG 3)):=rfl
theorem abV:aO 211=ut (.kf v6 (fG 5)):=rfl
theorem abW:aO 212=ut (.kf v6 (fG 1)):=rfl
theorem abX:aO 214=ut (.code aju):=rfl
theorem abY:aO 215=ut (.code ajv):=rfl
theorem abZ:aO 216=ut (.code ajw):=rfl
theorem ab0:aO 217=ut (.code ajx):=rfl
theorem ab1:aO 218=ut (.code ajy):=rfl
theorem ab2:aO 219=ut (.code ajz):=rfl
theorem ab3:aO 220=ut (.code ajA):=rfl
theorem ab4:aO 221=ut (.code ajB):=rfl
theorem ab5:aO 222=ut (.code ajC):=rfl
theorem ab6:aO 223=ut (.code ajD):=rfl
theorem ab7:aO 224=ut (.code ajE):=rfl
theorem ab8:aO 227=ut (.code ajF):=rfl
theorem ab9:aO 228=ut (.code ajG):=rfl
theorem ab':aO 229=ut (.code ajH):=rfl
theorem aca:aO 230=ut (.code ajI):=rfl
theorem acb:aO 232=ut (.code ajJ):=rfl
theorem acd:aO 233=ut (.code ajK):=rfl
theorem ace:aO 234=ut (.code ajL):=rfl
theorem acf:aO 235=ut (.code ajM):=rfl
theorem acg:aO 236=ut (.code ZR):=rfl
theorem ach:aO 237=ut (.code ajN):=rfl
theorem aci:aO 238=ut (.code ajO):=rfl
theorem acj:aO 239=ut (.code ajP):=rfl
theorem ack:aO 240=ut (.code ajQ):=rfl
theorem acm:aO 246=ut (.code ajR):=rfl
theorem acn:aO 247=ut (.code ajS):=rfl
theorem aco:aO 248=ut (.code ajT):=rfl
theorem acp:aO 249=ut (.code ajU):=rfl
theorem acq:aO 250=ut (.code ajV):=rfl
theorem JK:aO 251=ut (.code ajW):=rfl
theorem acr:aO 252=ut (.code ajX):=rfl
theorem QE:aO 253=ut (.code ajY):=rfl
theorem JL:aO 254=ut (.code ajZ):=rfl
theorem acs:aO 255=ut (.code aj0):=rfl
theorem acu:aO 256=ut (.code aj1):=rfl
theorem acv:aO 257=ut (.code aj2):=rfl
theorem acw:aO 258=ut (.code aj3):=rfl
theorem acx:aO 267=ut (.code aj4):=rfl
theorem acy:aO 268=ut (.code aj5):=rfl
theorem acz:aO 269=ut (.code aj6):=rfl
theorem acA:aO 270=ut (.code aj7):=rfl
theorem acB:aO 271=ut (.code aj8):=rfl
theorem acC:aO 272=ut (.code aj9):=rfl
theorem acD:aO 273=ut (.code aj'):=rfl
theorem acE:aO 274=ut (.code aka):=rfl
theorem acF:aO 275=ut (.code akb):=rfl
theorem acG:aO 276=ut (.code akc):=rfl
theorem JM:aO 278=ut (.code Sy):=rfl
theorem QF:aO 279=ut (.code akd):=rfl
theorem acH:aO 280=ut (.code ake):=rfl
theorem QG:aO 281=ut (.code aam):=rfl
theorem acI:aO 282=ut (.code akf):=rfl
theorem QH:aO 283=ut (.code aap):=rfl
theorem acJ:aO 284=ut (.code akg):=rfl
theorem acK:aO 285=ut (.code akh):=rfl
theorem acL:aO 289=ut (.kf v6 Ai):=rfl
theorem acM:aO 290=ut (.code aki):=rfl
theorem acN:aO 291=ut (.code akj):=rfl
theorem acO:aO 292=ut (.code akk):=rfl
theorem acP:aO 293=ut (.code akl):=rfl
theorem acQ:aO 294=ut (.code akm):=rfl
theorem QI:aO 295=ut (.code akn):=rfl
theorem acR:aO 296=ut (.code ako):=rfl
theorem acS:aO 297=ut (.code akp):=rfl
theorem QJ:aO 298=ut (.code U'):=rfl
theorem acT:aO 300=ut (.code akq):=rfl
theorem acU:aO 301=ut (.kf v6 (fG 1)):=rfl
end Go.Proofs.YtbgoiokedpjgbaaGreat
