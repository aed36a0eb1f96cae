/- The table of the seat's functions. Printed by a program. -/
import Derived.Test.YtbgoiokedpjgbaaGreatAQX1
import Derived.Test.YtbgoiokedpjgbaaGreatAQX2
import Derived.Test.YtbgoiokedpjgbaaGreatAQIN
import Derived.Test.YtbgoiokedpjgbaaGreatAQIO
import Derived.Test.YtbgoiokedpjgbaaGreatAQIC
import Derived.Test.YtbgoiokedpjgbaaGreatChecked
open Option renaming some->pp
open Bool renaming false->rc
set_option maxRecDepth 100000
namespace Go.Proofs.YtbgoiokedpjgbaaGreat
open Go.Vm
theorem lU:Go.Proofs.Tryz.prog.follows .mixedOrders=true:=Go.Proofs.Tryz.checked.mixed
theorem ajo:ui Go.Proofs.Tryz.prog 32 (.kG rc (fU 1)):=⟨rfl,nB lU (zero:=[.int .i64 0]) (by decide+kernel)⟩
theorem ajp:ui Go.Proofs.Tryz.prog 60 (.Hi (I9 3)):=ajk
theorem ajq:ui Go.Proofs.Tryz.prog 61 (.kG rc (fU 3)):=⟨rfl,nB lU (zero:=[.int .i64 0,.int .i64 0,.int .i64 0]) (by decide+kernel)⟩
theorem ajr:ui Go.Proofs.Tryz.prog 77 (.Hi (JG NT)):=ajm
theorem aak:ui Go.Proofs.Tryz.prog 147 (.Hi I7):=ajn
theorem aal:ui Go.Proofs.Tryz.prog 209 (.kG rc (fU 3)):=⟨rfl,nB lU (zero:=[.int .i64 0,.int .i64 0,.int .i64 0]) (by decide+kernel)⟩
theorem aam:ui Go.Proofs.Tryz.prog 210 (.kG rc (fU 3)):=⟨rfl,nB lU (zero:=[.int .i64 0,.int .i64 0,.int .i64 0]) (by decide+kernel)⟩
theorem aan:ui Go.Proofs.Tryz.prog 211 (.kG rc (fU 5)):=⟨rfl,nB lU (zero:=[.int .i64 0,.int .i64 0,.int .i64 0,.int .i64 0,.int .i64 0]) (by decide+kernel)⟩
theorem aao:ui Go.Proofs.Tryz.prog 212 (.kG rc (fU 1)):=⟨rfl,nB lU (zero:=[.bool rc]) (by decide+kernel)⟩
theorem aap:ui Go.Proofs.Tryz.prog 289 (.kG rc Aw):=⟨rfl,ND Go.Proofs.Tryz.func289 (by kernel_rfl) (by kernel_rfl) (by kernel_rfl) (by kernel_rfl)⟩
theorem aaq:ui Go.Proofs.Tryz.prog 301 (.kG rc (fU 1)):=⟨rfl,nB lU (zero:=[.int .i64 0]) (by decide+kernel)⟩
noncomputable def anK:TT:= .node 156 (.node 83 (.node 49 (.node 28 (.node 19 (.node 15 (.node 8 (.leaf 7 (.code x7)) (.node 10 (.leaf 8 (.code x8)) (.leaf 10 (.code x10)))) (.node 17 (.node 16 (.leaf 15 (.code x15)) (.leaf 16 (.code x16))) (.node 18 (.leaf 17 (.code x17)) (.leaf 18 (.code x18))))) (.node 24 (.node 22 (.node 20 (.leaf 19 (.code x19)) (.leaf 20 (.code x20))) (.node 23 (.leaf 22 (.code x22)) (.leaf 23 (.code x23)))) (.node 26 (.node 25 (.leaf 24 (.code x24)) (.leaf 25 (.code x25))) (.node 27 (.leaf 26 (.code x26)) (.leaf 27 (.code x27)))))) (.node 37 (.node 33 (.node 31 (.node 29 (.leaf 28 (.code x28)) (.leaf 29 (.code x29))) (.node 32 (.leaf 31 (.code x31)) (.leaf 32 (.kG rc (fU 1))))) (.node 35 (.node 34 (.leaf 33 (.code x33)) (.leaf 34 (.code x34))) (.node 36 (.leaf 35 (.code x35)) (.leaf 36 (.code x36))))) (.node 45 (.node 43 (.node 39 (.leaf 37 (.code x37)) (.leaf 39 (.code x39))) (.node 44 (.leaf 43 (.code x43)) (.leaf 44 (.code x44)))) (.node 47 (.node 46 (.leaf 45 (.code x45)) (.leaf 46 (.code x46))) (.node 48 (.leaf 47 (.code x47)) (.leaf 48 (.code x48))))))) (.node 67 (.node 59 (.node 53 (.node 51 (.node 50 (.leaf 49 (.code x49)) (.leaf 50 (.code x50))) (.node 52 (.leaf 51 (.code x51)) (.leaf 52 (.code x52)))) (.node 57 (.node 55 (.leaf 53 (.code x53)) (.leaf 55 (.code x55))) (.node 58 (.leaf 57 (.code x57)) (.leaf 58 (.code x58))))) (.node 63 (.node 61 (.node 60 (.leaf 59 (.code x59)) (.leaf 60 (.Hi (I9 3)))) (.node 62 (.leaf 61 (.kG rc (fU 3))) (.leaf 62 (.code x62)))) (.node 65 (.node 64 (.leaf 63 (.code x63)) (.leaf 64 (.code x64))) (.node 66 (.leaf 65 (.code x65)) (.leaf 66 (.code x66)))))) (.node 75 (.node 71 (.node 69 (.node 68 (.leaf 67 (.code x67)) (.leaf 68 (.code x68))) (.node 70 (.leaf 69 (.code x69)) (.leaf 70 (.code x70)))) (.node 73 (.node 72 (.leaf 71 (.code x71)) (.leaf 72 (.code x72))) (.node 74 (.leaf 73 (.code x73)) (.leaf 74 (.code x74))))) (.node 79 (.node 77 (.node 76 (.leaf 75 (.code x75)) (.leaf 76 (.code x76))) (.node 78 (.leaf 77 (.Hi (JG NT))) (.leaf 78 (.code x78)))) (.node 81 (.node 80 (.leaf 79 (.code x79)) (.leaf 80 (.code x80))) (.node 82 (.leaf 81 (.code x81)) (.leaf 82 (.code x82)))))))) (.node 121 (.node 102 (.node 92 (.node 87 (.node 85 (.node 84 (.leaf 83 (.code Xs)) (.leaf 84 (.code x84))) (.node 86 (.leaf 85 (.code x85)) (.leaf 86 (.code x86)))) (.node 89 (.node 88 (.leaf 87 (.code x87)) (.leaf 88 (.code x88))) (.node 91 (.leaf 89 (.code x89)) (.leaf 91 (.code x91))))) (.node 98 (.node 96 (.node 95 (.leaf 92 (.code x92)) (.leaf 95 (.code x95))) (.node 97 (.leaf 96 (.code x96)) (.leaf 97 (.code x97)))) (.node 100 (.node 99 (.leaf 98 (.code x98)) (.leaf 99 (.code x99))) (.node 101 (.leaf 100 (.code agL)) (.leaf 101 (.code agM)))))) (.node 111 (.node 106 (.node 104 (.node 103 (.leaf 102 (.code agN)) (.leaf 103 (.code agO))) (.node 105 (.leaf 104 (.code agP)) (.leaf 105 (.code agQ)))) (.node 109 (.node 108 (.leaf 106 (.code agR)) (.leaf 108 (.code agS))) (.node 110 (.leaf 109 (.code agT)) (.leaf 110 (.code agU))))) (.node 117 (.node 115 (.node 114 (.leaf 111 (.code agV)) (.leaf 114 (.code agW))) (.node 116 (.leaf 115 (.code agX)) (.leaf 116 (.code agY)))) (.node 119 (.node 118 (.leaf 117 (.code agZ)) (.leaf 118 (.code ag0))) (.node 120 (.leaf 119 (.code ag1)) (.leaf 120 (.code ag2))))))) (.node 138 (.node 129 (.node 125 (.node 123 (.node 122 (.leaf 121 (.code ag3)) (.leaf 122 (.code ag4))) (.node 124 (.leaf 123 (.code ag5)) (.leaf 124 (.code ag6)))) (.node 127 (.node 126 (.leaf 125 (.code ag7)) (.leaf 126 (.code ag8))) (.node 128 (.leaf 127 (.code ag9)) (.leaf 128 (.code ag'))))) (.node 134 (.node 131 (.node 130 (.leaf 129 (.code Uf)) (.leaf 130 (.code Rt))) (.node 132 (.leaf 131 (.code aha)) (.leaf 132 (.code ahb)))) (.node 136 (.node 135 (.leaf 134 (.code ahc)) (.leaf 135 (.code XZ))) (.node 137 (.leaf 136 (.code X1)) (.leaf 137 (.code ahd)))))) (.node 146 (.node 142 (.node 140 (.node 139 (.leaf 138 (.code ahe)) (.leaf 139 (.code ahf))) (.node 141 (.leaf 140 (.code ahg)) (.leaf 141 (.code ahh)))) (.node 144 (.node 143 (.leaf 142 (.code ahi)) (.leaf 143 (.code ahj))) (.node 145 (.leaf 144 (.code ahk)) (.leaf 145 (.code ahl))))) (.node 150 (.node 148 (.node 147 (.leaf 146 (.code ahm)) (.leaf 147 (.Hi I7))) (.node 149 (.leaf 148 (.code ahn)) (.leaf 149 (.code aho)))) (.node 152 (.node 151 (.leaf 150 (.code ahp)) (.leaf 151 (.code ahq))) (.node 153 (.leaf 152 (.code ahr)) (.leaf 153 (.code ahs))))))))) (.node 234 (.node 199 (.node 174 (.node 164 (.node 160 (.node 158 (.node 157 (.leaf 156 (.code aht)) (.leaf 157 (.code ahu))) (.node 159 (.leaf 158 (.code ahv)) (.leaf 159 (.code ahw)))) (.node 162 (.node 161 (.leaf 160 (.code ahx)) (.leaf 161 (.code ahy))) (.node 163 (.leaf 162 (.code ahz)) (.leaf 163 (.code ahA))))) (.node 170 (.node 166 (.node 165 (.leaf 164 (.code ahB)) (.leaf 165 (.code ahC))) (.node 168 (.leaf 166 (.code ahD)) (.leaf 168 (.code ahE)))) (.node 172 (.node 171 (.leaf 170 (.code ahF)) (.leaf 171 (.code Ug))) (.node 173 (.leaf 172 (.code ahG)) (.leaf 173 (.code ahH)))))) (.node 182 (.node 178 (.node 176 (.node 175 (.leaf 174 (.code ahI)) (.leaf 175 (.code ahJ))) (.node 177 (.leaf 176 (.code ahK)) (.leaf 177 (.code ahL)))) (.node 180 (.node 179 (.leaf 178 (.code ahM)) (.leaf 179 (.code ahN))) (.node 181 (.leaf 180 (.code ahO)) (.leaf 181 (.code ahQ))))) (.node 186 (.node 184 (.node 183 (.leaf 182 (.code ahR)) (.leaf 183 (.code ahS))) (.node 185 (.leaf 184 (.code ahT)) (.leaf 185 (.code ahU)))) (.node 188 (.node 187 (.leaf 186 (.code Uh)) (.leaf 187 (.code Om))) (.node 198 (.leaf 188 (.code Ru)) (.leaf 198 (.code ahV))))))) (.node 216 (.node 207 (.node 203 (.node 201 (.node 200 (.leaf 199 (.code ahW)) (.leaf 200 (.code ahX))) (.node 202 (.leaf 201 (.code ahY)) (.leaf 202 (.code YR)))) (.node 205 (.node 204 (.leaf 203 (.code ahZ)) (.leaf 204 (.code ah0))) (.node 206 (.leaf 205 (.code ah1)) (.leaf 206 (.code ah2))))) (.node 211 (.node 209 (.node 208 (.leaf 207 (.code YX)) (.leaf 208 (.code ah3))) (.node 210 (.leaf 209 (.kG rc (fU 3))) (.leaf 210 (.kG rc (fU 3))))) (.node 214 (.node 212 (.leaf 211 (.kG rc (fU 5))) (.leaf 212 (.kG rc (fU 1)))) (.node 215 (.leaf 214 (.code ah4)) (.leaf 215 (.code ah5)))))) (.node 226 (.node 220 (.node 218 (.node 217 (.leaf 216 (.code ah6)) (.leaf 217 (.code ah7))) (.node 219 (.leaf 218 (.code ah8)) (.leaf 219 (.code ah9)))) (.node 223 (.node 222 (.leaf 220 (.code ah')) (.leaf 222 (.code aia))) (.node 224 (.leaf 223 (.code aib)) (.leaf 224 (.code aic))))) (.node 230 (.node 228 (.node 227 (.leaf 226 (.code aid)) (.leaf 227 (.code aie))) (.node 229 (.leaf 228 (.code aif)) (.leaf 229 (.code aih)))) (.node 232 (.node 231 (.leaf 230 (.code aii)) (.leaf 231 (.code aij))) (.node 233 (.leaf 232 (.code aik)) (.leaf 233 (.code ail)))))))) (.node 269 (.node 253 (.node 243 (.node 238 (.node 236 (.node 235 (.leaf 234 (.code aim)) (.leaf 235 (.code ain))) (.node 237 (.leaf 236 (.code Zj)) (.leaf 237 (.code aio)))) (.node 240 (.node 239 (.leaf 238 (.code aip)) (.leaf 239 (.code aiq))) (.node 242 (.leaf 240 (.code air)) (.leaf 242 (.code ais))))) (.node 249 (.node 247 (.node 246 (.leaf 243 (.code ait)) (.leaf 246 (.code aiu))) (.node 248 (.leaf 247 (.code aiv)) (.leaf 248 (.code aiw)))) (.node 251 (.node 250 (.leaf 249 (.code aix)) (.leaf 250 (.code aiy))) (.node 252 (.leaf 251 (.code aiz)) (.leaf 252 (.code aiA)))))) (.node 261 (.node 257 (.node 255 (.node 254 (.leaf 253 (.code aiB)) (.leaf 254 (.code aiC))) (.node 256 (.leaf 255 (.code aiD)) (.leaf 256 (.code aiE)))) (.node 259 (.node 258 (.leaf 257 (.code aiF)) (.leaf 258 (.code aiG))) (.node 260 (.leaf 259 (.code aiH)) (.leaf 260 (.code aiI))))) (.node 265 (.node 263 (.node 262 (.leaf 261 (.code aiJ)) (.leaf 262 (.code aiK))) (.node 264 (.leaf 263 (.code aiL)) (.leaf 264 (.code aiM)))) (.node 267 (.node 266 (.leaf 265 (.code aiN)) (.leaf 266 (.code aiO))) (.node 268 (.leaf 267 (.code aiP)) (.leaf 268 (.code aiQ))))))) (.node 286 (.node 278 (.node 273 (.node 271 (.node 270 (.leaf 269 (.code aiR)) (.leaf 270 (.code aiS))) (.node 272 (.leaf 271 (.code aiT)) (.leaf 272 (.code aiU)))) (.node 275 (.node 274 (.leaf 273 (.code aiV)) (.leaf 274 (.code aiW))) (.node 276 (.leaf 275 (.code aiX)) (.leaf 276 (.code aiY))))) (.node 282 (.node 280 (.node 279 (.leaf 278 (.code Rv)) (.leaf 279 (.code aiZ))) (.node 281 (.leaf 280 (.code ai0)) (.leaf 281 (.code ZZ)))) (.node 284 (.node 283 (.leaf 282 (.code ai1)) (.leaf 283 (.code Z2))) (.node 285 (.leaf 284 (.code ai2)) (.leaf 285 (.code ai3)))))) (.node 294 (.node 290 (.node 288 (.node 287 (.leaf 286 (.code ai4)) (.leaf 287 (.code ai5))) (.node 289 (.leaf 288 (.code ai6)) (.leaf 289 (.kG rc Aw)))) (.node 292 (.node 291 (.leaf 290 (.code ai7)) (.leaf 291 (.code ai8))) (.node 293 (.leaf 292 (.code ai9)) (.leaf 293 (.code ai'))))) (.node 298 (.node 296 (.node 295 (.leaf 294 (.code aja)) (.leaf 295 (.code ajb))) (.node 297 (.leaf 296 (.code ajc)) (.leaf 297 (.code ajd)))) (.node 300 (.node 299 (.leaf 298 (.code Ui)) (.leaf 299 (.code aje))) (.node 301 (.leaf 300 (.code ajf)) (.leaf 301 (.kG rc (fU 1))))))))))
theorem PY:anK.All (ui Go.Proofs.Tryz.prog):=⟨⟨⟨⟨⟨⟨⟨anA,⟨anB,afB⟩⟩,⟨⟨afC,afD⟩,⟨afE,afF⟩⟩⟩,⟨⟨⟨afG,afH⟩,⟨afI,afJ⟩⟩,⟨⟨afK,afL⟩,⟨afM,afN⟩⟩⟩⟩,⟨⟨⟨⟨afO,afP⟩,⟨afQ,ajo⟩⟩,⟨⟨afR,afS⟩,⟨afT,afU⟩⟩⟩,⟨⟨⟨afV,afW⟩,⟨afX,afY⟩⟩,⟨⟨afZ,af0⟩,⟨af1,af2⟩⟩⟩⟩⟩,⟨⟨⟨⟨⟨af3,af4⟩,⟨af5,af6⟩⟩,⟨⟨af7,af8⟩,⟨af9,af'⟩⟩⟩,⟨⟨⟨aga,ajp⟩,⟨ajq,agb⟩⟩,⟨⟨agc,age⟩,⟨agf,agh⟩⟩⟩⟩,⟨⟨⟨⟨agi,agj⟩,⟨agk,agl⟩⟩,⟨⟨agm,agn⟩,⟨ago,agp⟩⟩⟩,⟨⟨⟨agq,agr⟩,⟨ajr,ags⟩⟩,⟨⟨agt,agu⟩,⟨agv,agw⟩⟩⟩⟩⟩⟩,⟨⟨⟨⟨⟨⟨agx,agy⟩,⟨agz,agA⟩⟩,⟨⟨agB,agC⟩,⟨agD,agE⟩⟩⟩,⟨⟨⟨agF,agG⟩,⟨agH,agI⟩⟩,⟨⟨agJ,agK⟩,⟨Xt,Xu⟩⟩⟩⟩,⟨⟨⟨⟨Xv,Xw⟩,⟨Xx,Xy⟩⟩,⟨⟨Xz,XA⟩,⟨XB,XC⟩⟩⟩,⟨⟨⟨XD,XE⟩,⟨XF,XG⟩⟩,⟨⟨XH,XI⟩,⟨XJ,XK⟩⟩⟩⟩⟩,⟨⟨⟨⟨⟨XL,XM⟩,⟨XN,XO⟩⟩,⟨⟨XP,XQ⟩,⟨XS,XT⟩⟩⟩,⟨⟨⟨XU,XV⟩,⟨XW,XX⟩⟩,⟨⟨XY,X0⟩,⟨X2,X3⟩⟩⟩⟩,⟨⟨⟨⟨X4,X5⟩,⟨X6,X7⟩⟩,⟨⟨X8,X9⟩,⟨X',Ya⟩⟩⟩,⟨⟨⟨Yb,aak⟩,⟨Yc,Yd⟩⟩,⟨⟨Ye,Yf⟩,⟨Yg,Yh⟩⟩⟩⟩⟩⟩⟩,⟨⟨⟨⟨⟨⟨⟨Yi,Yj⟩,⟨Yk,Yl⟩⟩,⟨⟨Ym,Yn⟩,⟨Yo,Yp⟩⟩⟩,⟨⟨⟨Yq,Yr⟩,⟨Ys,Yt⟩⟩,⟨⟨Yu,Yv⟩,⟨Yw,Yx⟩⟩⟩⟩,⟨⟨⟨⟨Yy,Yz⟩,⟨YA,YB⟩⟩,⟨⟨YC,YD⟩,⟨YE,YF⟩⟩⟩,⟨⟨⟨YG,YH⟩,⟨YI,YJ⟩⟩,⟨⟨YK,YL⟩,⟨YM,YN⟩⟩⟩⟩⟩,⟨⟨⟨⟨⟨YO,YP⟩,⟨YQ,YS⟩⟩,⟨⟨YT,YU⟩,⟨YV,YW⟩⟩⟩,⟨⟨⟨YY,YZ⟩,⟨aal,aam⟩⟩,⟨⟨aan,aao⟩,⟨Y0,Y1⟩⟩⟩⟩,⟨⟨⟨⟨Y2,Y3⟩,⟨Y4,Y5⟩⟩,⟨⟨Y6,Y7⟩,⟨Y8,Y9⟩⟩⟩,⟨⟨⟨Y',Za⟩,⟨Zb,Zc⟩⟩,⟨⟨Zd,Ze⟩,⟨Zf,Zg⟩⟩⟩⟩⟩⟩,⟨⟨⟨⟨⟨⟨Zh,Zi⟩,⟨Zk,Zl⟩⟩,⟨⟨Zm,Zn⟩,⟨Zo,Zp⟩⟩⟩,⟨⟨⟨Zq,Zr⟩,⟨Zs,Zt⟩⟩,⟨⟨Zu,Zv⟩,⟨Zw,Zx⟩⟩⟩⟩,⟨⟨⟨⟨Zy,Zz⟩,⟨ZA,ZB⟩⟩,⟨⟨ZC,ZD⟩,⟨ZE,ZF⟩⟩⟩,⟨⟨⟨ZG,ZH⟩,⟨ZI,ZJ⟩⟩,⟨⟨ZK,ZL⟩,⟨ZM,ZN⟩⟩⟩⟩⟩,⟨⟨⟨⟨⟨ZO,ZP⟩,⟨ZQ,ZR⟩⟩,⟨⟨ZS,ZT⟩,⟨ZU,ZV⟩⟩⟩,⟨⟨⟨ZW,ZX⟩,⟨ZY,Z0⟩⟩,⟨⟨Z1,Z3⟩,⟨Z4,Z5⟩⟩⟩⟩,⟨⟨⟨⟨Z6,Z7⟩,⟨Z8,aap⟩⟩,⟨⟨Z9,Z'⟩,⟨aaa,aab⟩⟩⟩,⟨⟨⟨aac,aad⟩,⟨aae,aaf⟩⟩,⟨⟨aag,aah⟩,⟨aai,aaq⟩⟩⟩⟩⟩⟩⟩⟩
noncomputable def bA:nv:=anK.get
theorem aek:bA 7=pp (.code x7):=rfl
theorem anL:bA 8=pp (.code x8):=rfl
theorem ajs:bA 10=pp (.code x10):=rfl
theorem ajt:bA 15=pp (.code x15):=rfl
theorem aju:bA 16=pp (.code x16):=rfl
theorem ajv:bA 17=pp (.code x17):=rfl
theorem ajw:bA 18=pp (.code x18):=rfl
theorem ajx:bA 19=pp (.code x19):=rfl
theorem ajy:bA 20=pp (.code x20):=rfl
theorem ajz:bA 22=pp (.code x22):=rfl
theorem ajA:bA 23=pp (.code x23):=rfl
theorem ajB:bA 24=pp (.code x24):=rfl
theorem ajC:bA 25=pp (.code x25):=rfl
theorem ajD:bA 26=pp (.code x26):=rfl
theorem ajE:bA 27=pp (.code x27):=rfl
theorem ajF:bA 28=pp (.code x28):=rfl
theorem Uo:bA 29=pp (.code x29):=rfl
theorem ajG:bA 31=pp (.code x31):=rfl
theorem ajH:bA 32=pp (.kG rc (fU 1)):=rfl
theorem ajI:bA 33=pp (.code x33):=rfl
theorem Uq:bA 34=pp (.code x34):=rfl
theorem ajJ:bA 35=pp (.code x35):=rfl
theorem Ur:bA 36=pp (.code x36):=rfl
theorem ajK:bA 37=pp (.code x37):=rfl
theorem ajL:bA 39=pp (.code x39):=rfl
theorem ajM:bA 43=pp (.code x43):=rfl
theorem ajN:bA 44=pp (.code x44):=rfl
theorem ajO:bA 45=pp (.code x45):=rfl
theorem ajP:bA 46=pp (.code x46):=rfl
theorem ajQ:bA 47=pp (.code x47):=rfl
theorem ajR:bA 48=pp (.code x48):=rfl
theorem ajS:bA 49=pp (.code x49):=rfl
theorem ajT:bA 50=pp (.code x50):=rfl
theorem ajU:bA 51=pp (.code x51):=rfl
theorem ajV:bA 52=pp (.code x52):=rfl
theorem ajW:bA 53=pp (.code x53):=rfl
theorem ajX:bA 55=pp (.code x55):=rfl
theorem ajY:bA 57=pp (.code x57):=rfl
theorem ajZ:bA 58=pp (.code x58):=rfl
theorem aj0:bA 59=pp (.code x59):=rfl
theorem aj1:bA 60=pp (.Hi (I9 3)):=rfl
theorem aj2:bA 61=pp (.kG rc (fU 3)):=rfl
theorem aj3:bA 62=pp (.code x62):=rfl
theorem aj4:bA 63=pp (.code x63):=rfl
theorem aj5:bA 64=pp (.code x64):=rfl
theorem aj6:bA 65=pp (.code x65):=rfl
theorem aj7:bA 66=pp (.code x66):=rfl
theorem aj8:bA 67=pp (.code x67):=rfl
theorem aj9:bA 68=pp (.code x68):=rfl
theorem aj':bA 69=pp (.code x69):=rfl
theorem aka:bA 70=pp (.code x70):=rfl
theorem Us:bA 71=pp (.code x71):=rfl
theorem Ut:bA 72=pp (.code x72):=rfl
theorem Uu:bA 73=pp (.code x73):=rfl
theorem akb:bA 74=pp (.code x74):=rfl
theorem akc:bA 75=pp (.code x75):=rfl
theorem akd:bA 76=pp (.code x76):=rfl
theorem ake:bA 77=pp (.Hi (JG NT)):=rfl
theorem akf:bA 78=pp (.code x78):=rfl
theorem akg:bA 79=pp (.code x79):=rfl
theorem akh:bA 80=pp (.code x80):=rfl
theorem aki:bA 81=pp (.code x81):=rfl
theorem akj:bA 82=pp (.code x82):=rfl
theorem De:bA 83=pp (.code Xs):=rfl
theorem akk:bA 84=pp (.code x84):=rfl
theorem akl:bA 85=pp (.code x85):=rfl
theorem akm:bA 86=pp (.code x86):=rfl
theorem akn:bA 87=pp (.code x87):=rfl
theorem ako:bA 88=pp (.code x88):=rfl
theorem akp:bA 89=pp (.code x89):=rfl
theorem akq:bA 91=pp (.code x91):=rfl
theorem akr:bA 92=pp (.code x92):=rfl
theorem aks:bA 95=pp (.code x95):=rfl
theorem akt:bA 96=pp (.code x96):=rfl
theorem aku:bA 97=pp (.code x97):=rfl
theorem akv:bA 98=pp (.code x98):=rfl
theorem akw:bA 99=pp (.code x99):=rfl
theorem aar:bA 100=pp (.code agL):=rfl
theorem aas:bA 101=pp (.code agM):=rfl
theorem aat:bA 102=pp (.code agN):=rfl
theorem aau:bA 103=pp (.code agO):=rfl
theorem aav:bA 104=pp (.code agP):=rfl
theorem aaw:bA 105=pp (.code agQ):=rfl
theorem aax:bA 106=pp (.code agR):=rfl
theorem aay:bA 108=pp (.code agS):=rfl
theorem JW:bA 109=pp (.code agT):=rfl
theorem aaz:bA 110=pp (.code agU):=rfl
theorem aaA:bA 111=pp (.code agV):=rfl
theorem aaB:bA 114=pp (.code agW):=rfl
theorem aaC:bA 115=pp (.code agX):=rfl
theorem aaD:bA 116=pp (.code agY):=rfl
theorem aaE:bA 117=pp (.code agZ):=rfl
theorem aaF:bA 118=pp (.code ag0):=rfl
theorem aaG:bA 119=pp (.code ag1):=rfl
theorem aaH:bA 120=pp (.code ag2):=rfl
theorem aaI:bA 121=pp (.code ag3):=rfl
theorem aaJ:bA 122=pp (.code ag4):=rfl
theorem aaK:bA 123=pp (.code ag5):=rfl
theorem aaL:bA 124=pp (.code ag6):=rfl
theorem PZ:bA 125=pp (.code ag7):=rfl
theorem aaM:bA 126=pp (.code ag8):=rfl
theorem aaN:bA 127=pp (.code ag9):=rfl
theorem aaO:bA 128=pp (.code ag'):=rfl
theorem P0:bA 129=pp (.code Uf):=rfl
theorem JX:bA 130=pp (.code Rt):=rfl
theorem aaP:bA 131=pp (.code aha):=rfl
theorem aaQ:bA 132=pp (.code ahb):=rfl
theorem aaR:bA 134=pp (.code ahc):=rfl
theorem P1:bA 135=pp (.code XZ):=rfl
theorem P2:bA 136=pp (.code X1):=rfl
theorem aaS:bA 137=pp (.code ahd):=rfl
theorem JY:bA 138=pp (.code ahe):=rfl
theorem aaT:bA 139=pp (.code ahf):=rfl
theorem aaU:bA 140=pp (.code ahg):=rfl
theorem aaV:bA 141=pp (.code ahh):=rfl
theorem aaW:bA 142=pp (.code ahi):=rfl
theorem aaX:bA 143=pp (.code ahj):=rfl
theorem aaY:bA 144=pp (.code ahk):=rfl
theorem aaZ:bA 145=pp (.code ahl):=rfl
theorem P3:bA 146=pp (.code ahm):=rfl
theorem aa0:bA 147=pp (.Hi I7):=rfl
theorem aa1:bA 148=pp (.code ahn):=rfl
theorem aa2:bA 149=pp (.code aho):=rfl
theorem aa3:bA 150=pp (.code ahp):=rfl
theorem aa4:bA 151=pp (.code ahq):=rfl
theorem aa5:bA 152=pp (.code ahr):=rfl
theorem aa6:bA 153=pp (.code ahs):=rfl
theorem aa7:bA 156=pp (.code aht):=rfl
theorem aa8:bA 157=pp (.code ahu):=rfl
theorem aa9:bA 158=pp (.code ahv):=rfl
theorem aa':bA 159=pp (.code ahw):=rfl
theorem aba:bA 160=pp (.code ahx):=rfl
theorem abb:bA 161=pp (.code ahy):=rfl
theorem abc:bA 162=pp (.code ahz):=rfl
theorem abd:bA 163=pp (.code ahA):=rfl
theorem abe:bA 164=pp (.code ahB):=rfl
theorem abf:bA 165=pp (.code ahC):=rfl
theorem abg:bA 166=pp (.code ahD):=rfl
theorem abh:bA 168=pp (.code ahE):=rfl
theorem abi:bA 170=pp (.code ahF):=rfl
theorem P4:bA 171=pp (.code Ug):=rfl
theorem abj:bA 172=pp (.code ahG):=rfl
theorem abk:bA 173=pp (.code ahH):=rfl
theorem abl:bA 174=pp (.code ahI):=rfl
theorem abm:bA 175=pp (.code ahJ):=rfl
theorem abn:bA 176=pp (.code ahK):=rfl
theorem abo:bA 177=pp (.code ahL):=rfl
theorem abp:bA 178=pp (.code ahM):=rfl
theorem abq:bA 179=pp (.code ahN):=rfl
theorem P5:bA 180=pp (.code ahO):=rfl
theorem abr:bA 181=pp (.code ahQ):=rfl
theorem abt:bA 182=pp (.code ahR):=rfl
theorem abu:bA 183=pp (.code ahS):=rfl
theorem abv:bA 184=pp (.code ahT):=rfl
theorem abw:bA 185=pp (.code ahU):=rfl
theorem P6:bA 186=pp (.code Uh):=rfl
theorem EA:bA 187=pp (.code Om):=rfl
theorem JZ:bA 188=pp (.code Ru):=rfl
theorem abx:bA 198=pp (.code ahV):=rfl
theorem aby:bA 199=pp (.code ahW):=rfl
theorem abz:bA 200=pp (.code ahX):=rfl
theorem J0:bA 201=pp (.code ahY):=rfl
theorem abA:bA 202=pp (.code YR):=rfl
theorem abB:bA 203=pp (.code ahZ):=rfl
theorem abC:bA 204=pp (.code ah0):=rfl
theorem abD:bA 205=pp (.code ah1):=rfl
theorem abE:bA 206=pp (.code ah2):=rfl
theorem P7:bA 207=pp (.code YX):=rfl
theorem abF:bA 208=pp (.code ah3):=rfl
theorem abG:bA 209=pp (.kG rc (fU 3)):=rfl
theorem abH:bA 210=pp (.kG rc (fU 3)):=rfl
theorem abI:bA 211=pp (.kG rc (fU 5)):=rfl
theorem abJ:bA 212=pp (.kG rc (fU 1)):=rfl
theorem abK:bA 214=pp (.code ah4):=rfl
theorem abL:bA 215=pp (.code ah5):=rfl
theorem abM:bA 216=pp (.code ah6):=rfl
theorem abN:bA 217=pp (.code ah7):=rfl
theorem abO:bA 218=pp (.code ah8):=rfl
theorem abP:bA 219=pp (.code ah9):=rfl
theorem abQ:bA 220=pp (.code ah'):=rfl
theorem abR:bA 222=pp (.code aia):=rfl
theorem abS:bA 223=pp (.code aib):=rfl
theorem abT:bA 224=pp (.code aic):=rfl
theorem abU:bA 226=pp (.code aid):=rfl
theorem abV:bA 227=pp (.code aie):=rfl
theorem abW:bA 228=pp (.code aif):=rfl
theorem abX:bA 229=pp (.code aih):=rfl
theorem abY:bA 230=pp (.code aii):=rfl
theorem abZ:bA 231=pp (.code aij):=rfl
theorem ab0:bA 232=pp (.code aik):=rfl
theorem ab1:bA 233=pp (.code ail):=rfl
theorem ab2:bA 234=pp (.code aim):=rfl
theorem ab3:bA 235=pp (.code ain):=rfl
theorem ab4:bA 236=pp (.code Zj):=rfl
theorem ab5:bA 237=pp (.code aio):=rfl
theorem ab6:bA 238=pp (.code aip):=rfl
theorem ab7:bA 239=pp (.code aiq):=rfl
theorem ab8:bA 240=pp (.code air):=rfl
theorem apM:bA 242=pp (.code ais):=rfl
theorem apN:bA 243=pp (.code ait):=rfl
theorem ab9:bA 246=pp (.code aiu):=rfl
theorem ab':bA 247=pp (.code aiv):=rfl
theorem aca:bA 248=pp (.code aiw):=rfl
theorem acb:bA 249=pp (.code aix):=rfl
theorem acd:bA 250=pp (.code aiy):=rfl
theorem J1:bA 251=pp (.code aiz):=rfl
theorem ace:bA 252=pp (.code aiA):=rfl
theorem P8:bA 253=pp (.code aiB):=rfl
theorem J2:bA 254=pp (.code aiC):=rfl
theorem acf:bA 255=pp (.code aiD):=rfl
theorem acg:bA 256=pp (.code aiE):=rfl
theorem ach:bA 257=pp (.code aiF):=rfl
theorem aci:bA 258=pp (.code aiG):=rfl
theorem acj:bA 259=pp (.code aiH):=rfl
theorem apO:bA 260=pp (.code aiI):=rfl
theorem apP:bA 261=pp (.code aiJ):=rfl
theorem apQ:bA 262=pp (.code aiK):=rfl
theorem apR:bA 263=pp (.code aiL):=rfl
theorem apT:bA 264=pp (.code aiM):=rfl
theorem apU:bA 265=pp (.code aiN):=rfl
theorem apV:bA 266=pp (.code aiO):=rfl
theorem ack:bA 267=pp (.code aiP):=rfl
theorem acm:bA 268=pp (.code aiQ):=rfl
theorem acn:bA 269=pp (.code aiR):=rfl
theorem aco:bA 270=pp (.code aiS):=rfl
theorem acp:bA 271=pp (.code aiT):=rfl
theorem acq:bA 272=pp (.code aiU):=rfl
theorem acr:bA 273=pp (.code aiV):=rfl
theorem acs:bA 274=pp (.code aiW):=rfl
theorem acu:bA 275=pp (.code aiX):=rfl
theorem acv:bA 276=pp (.code aiY):=rfl
theorem J3:bA 278=pp (.code Rv):=rfl
theorem P9:bA 279=pp (.code aiZ):=rfl
theorem acw:bA 280=pp (.code ai0):=rfl
theorem P':bA 281=pp (.code ZZ):=rfl
theorem acx:bA 282=pp (.code ai1):=rfl
theorem Qa:bA 283=pp (.code Z2):=rfl
theorem acy:bA 284=pp (.code ai2):=rfl
theorem acz:bA 285=pp (.code ai3):=rfl
theorem apW:bA 286=pp (.code ai4):=rfl
theorem apX:bA 287=pp (.code ai5):=rfl
theorem apY:bA 288=pp (.code ai6):=rfl
theorem acA:bA 289=pp (.kG rc Aw):=rfl
theorem acB:bA 290=pp (.code ai7):=rfl
theorem acC:bA 291=pp (.code ai8):=rfl
theorem acD:bA 292=pp (.code ai9):=rfl
theorem acE:bA 293=pp (.code ai'):=rfl
theorem acF:bA 294=pp (.code aja):=rfl
theorem Qb:bA 295=pp (.code ajb):=rfl
theorem acG:bA 296=pp (.code ajc):=rfl
theorem acH:bA 297=pp (.code ajd):=rfl
theorem Qc:bA 298=pp (.code Ui):=rfl
theorem apZ:bA 299=pp (.code aje):=rfl
theorem acI:bA 300=pp (.code ajf):=rfl
theorem acJ:bA 301=pp (.kG rc (fU 1)):=rfl
end Go.Proofs.YtbgoiokedpjgbaaGreat
