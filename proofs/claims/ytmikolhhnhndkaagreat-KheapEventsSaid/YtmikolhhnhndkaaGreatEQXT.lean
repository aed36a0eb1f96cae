/- The table of the seat's functions. Printed by a program. -/
import Derived.Test.YtmikolhhnhndkaaGreatEQX1
import Derived.Test.YtmikolhhnhndkaaGreatChecked
open Option renaming some->ut
open Bool renaming false->v6
set_option maxRecDepth 100000
namespace Go.Proofs.YtmikolhhnhndkaaGreat
open Go.Vm
theorem iw:Go.Proofs.Tryz.prog.follows .mixedOrders=true:=Go.Proofs.Tryz.checked.mixed
theorem abE:wa Go.Proofs.Tryz.prog 37 (.ir v6 (eN 1)):=⟨rfl,lI iw (zero:=[.int .i64 0]) (by decide+kernel)⟩
theorem abF:wa Go.Proofs.Tryz.prog 80 (.ir v6 (eN 3)):=⟨rfl,lI iw (zero:=[.int .i64 0,.int .i64 0,.int .i64 0]) (by decide+kernel)⟩
theorem U7:wa Go.Proofs.Tryz.prog 106 (.ir v6 (eN 3)):=⟨rfl,lI iw (zero:=[.int .i64 0,.int .i64 0,.int .i64 0]) (by decide+kernel)⟩
theorem U8:wa Go.Proofs.Tryz.prog 107 (.ir v6 (eN 3)):=⟨rfl,lI iw (zero:=[.int .i64 0,.int .i64 0,.int .i64 0]) (by decide+kernel)⟩
theorem U9:wa Go.Proofs.Tryz.prog 108 (.ir v6 (eN 5)):=⟨rfl,lI iw (zero:=[.int .i64 0,.int .i64 0,.int .i64 0,.int .i64 0,.int .i64 0]) (by decide+kernel)⟩
theorem U':wa Go.Proofs.Tryz.prog 109 (.ir v6 (eN 1)):=⟨rfl,lI iw (zero:=[.bool v6]) (by decide+kernel)⟩
theorem Va:wa Go.Proofs.Tryz.prog 190 (.ir v6 yv):=⟨rfl,KM Go.Proofs.Tryz.func190 (by kernel_rfl) (by kernel_rfl) (by kernel_rfl) (by kernel_rfl)⟩
theorem Vb:wa Go.Proofs.Tryz.prog 194 (.ir v6 (eN 1)):=⟨rfl,lI iw (zero:=[.int .i64 0]) (by decide+kernel)⟩
noncomputable def afT:TT:= .node 91 (.node 46 (.node 24 (.node 13 (.node 8 (.node 5 (.node 4 (.leaf 3 (.code x3)) (.leaf 4 (.code x4))) (.node 6 (.leaf 5 (.code x5)) (.node 7 (.leaf 6 (.code x6)) (.leaf 7 (.code x7))))) (.node 10 (.node 9 (.leaf 8 (.code x8)) (.leaf 9 (.code x9))) (.node 11 (.leaf 10 (.code x10)) (.node 12 (.leaf 11 (.code x11)) (.leaf 12 (.code x12)))))) (.node 18 (.node 15 (.node 14 (.leaf 13 (.code x13)) (.leaf 14 (.code x14))) (.node 16 (.leaf 15 (.code x15)) (.node 17 (.leaf 16 (.code x16)) (.leaf 17 (.code x17))))) (.node 21 (.node 19 (.leaf 18 (.code x18)) (.node 20 (.leaf 19 (.code x19)) (.leaf 20 (.code x20)))) (.node 22 (.leaf 21 (.code x21)) (.node 23 (.leaf 22 (.code x22)) (.leaf 23 (.code x23))))))) (.node 34 (.node 29 (.node 26 (.node 25 (.leaf 24 (.code x24)) (.leaf 25 (.code x25))) (.node 27 (.leaf 26 (.code x26)) (.node 28 (.leaf 27 (.code x27)) (.leaf 28 (.code x28))))) (.node 31 (.node 30 (.leaf 29 (.code x29)) (.leaf 30 (.code x30))) (.node 32 (.leaf 31 (.code x31)) (.node 33 (.leaf 32 (.code x32)) (.leaf 33 (.code x33)))))) (.node 40 (.node 36 (.node 35 (.leaf 34 (.code x34)) (.leaf 35 (.code x35))) (.node 37 (.leaf 36 (.code x36)) (.node 38 (.leaf 37 (.ir v6 (eN 1))) (.leaf 38 (.code x38))))) (.node 43 (.node 41 (.leaf 40 (.code x40)) (.node 42 (.leaf 41 (.code x41)) (.leaf 42 (.code x42)))) (.node 44 (.leaf 43 (.code x43)) (.node 45 (.leaf 44 (.code x44)) (.leaf 45 (.code x45)))))))) (.node 67 (.node 56 (.node 51 (.node 48 (.node 47 (.leaf 46 (.code x46)) (.leaf 47 (.code x47))) (.node 49 (.leaf 48 (.code x48)) (.node 50 (.leaf 49 (.code x49)) (.leaf 50 (.code x50))))) (.node 53 (.node 52 (.leaf 51 (.code x51)) (.leaf 52 (.code x52))) (.node 54 (.leaf 53 (.code x53)) (.node 55 (.leaf 54 (.code x54)) (.leaf 55 (.code x55)))))) (.node 61 (.node 58 (.node 57 (.leaf 56 (.code x56)) (.leaf 57 (.code x57))) (.node 59 (.leaf 58 (.code x58)) (.node 60 (.leaf 59 (.code x59)) (.leaf 60 (.code x60))))) (.node 64 (.node 62 (.leaf 61 (.code x61)) (.node 63 (.leaf 62 (.code x62)) (.leaf 63 (.code x63)))) (.node 65 (.leaf 64 (.code x64)) (.node 66 (.leaf 65 (.code x65)) (.leaf 66 (.code x66))))))) (.node 80 (.node 73 (.node 69 (.node 68 (.leaf 67 (.code x67)) (.leaf 68 (.code x68))) (.node 70 (.leaf 69 (.code x69)) (.node 71 (.leaf 70 (.code x70)) (.leaf 71 (.code x71))))) (.node 77 (.node 75 (.leaf 73 (.code x73)) (.node 76 (.leaf 75 (.code x75)) (.leaf 76 (.code x76)))) (.node 78 (.leaf 77 (.code x77)) (.node 79 (.leaf 78 (.code x78)) (.leaf 79 (.code x79)))))) (.node 85 (.node 82 (.node 81 (.leaf 80 (.ir v6 (eN 3))) (.leaf 81 (.code x81))) (.node 83 (.leaf 82 (.code x82)) (.node 84 (.leaf 83 (.code x83)) (.leaf 84 (.code x84))))) (.node 88 (.node 86 (.leaf 85 (.code x85)) (.node 87 (.leaf 86 (.code x86)) (.leaf 87 (.code x87)))) (.node 89 (.leaf 88 (.code x88)) (.node 90 (.leaf 89 (.code x89)) (.leaf 90 (.code x90))))))))) (.node 137 (.node 113 (.node 101 (.node 96 (.node 93 (.node 92 (.leaf 91 (.code x91)) (.leaf 92 (.code x92))) (.node 94 (.leaf 93 (.code x93)) (.node 95 (.leaf 94 (.code x94)) (.leaf 95 (.code x95))))) (.node 98 (.node 97 (.leaf 96 (.code x96)) (.leaf 97 (.code x97))) (.node 99 (.leaf 98 (.code x98)) (.node 100 (.leaf 99 (.code x99)) (.leaf 100 (.code aaC)))))) (.node 106 (.node 103 (.node 102 (.leaf 101 (.code aaD)) (.leaf 102 (.code aaE))) (.node 104 (.leaf 103 (.code aaF)) (.node 105 (.leaf 104 (.code aaG)) (.leaf 105 (.code aaH))))) (.node 109 (.node 107 (.leaf 106 (.ir v6 (eN 3))) (.node 108 (.leaf 107 (.ir v6 (eN 3))) (.leaf 108 (.ir v6 (eN 5))))) (.node 110 (.leaf 109 (.ir v6 (eN 1))) (.node 112 (.leaf 110 (.code aaI)) (.leaf 112 (.code aaJ))))))) (.node 126 (.node 120 (.node 117 (.node 116 (.leaf 113 (.code aaK)) (.leaf 116 (.code aaL))) (.node 118 (.leaf 117 (.code aaM)) (.node 119 (.leaf 118 (.code aaN)) (.leaf 119 (.code aaO))))) (.node 123 (.node 121 (.leaf 120 (.code aaP)) (.node 122 (.leaf 121 (.code aaQ)) (.leaf 122 (.code aaR)))) (.node 124 (.leaf 123 (.code aaS)) (.node 125 (.leaf 124 (.code aaT)) (.leaf 125 (.code aaU)))))) (.node 131 (.node 128 (.node 127 (.leaf 126 (.code aaV)) (.leaf 127 (.code aaW))) (.node 129 (.leaf 128 (.code aaX)) (.node 130 (.leaf 129 (.code aaY)) (.leaf 130 (.code aaZ))))) (.node 134 (.node 132 (.leaf 131 (.code aa0)) (.node 133 (.leaf 132 (.code aa1)) (.leaf 133 (.code aa2)))) (.node 135 (.leaf 134 (.code aa3)) (.node 136 (.leaf 135 (.code aa4)) (.leaf 136 (.code aa5)))))))) (.node 168 (.node 157 (.node 152 (.node 139 (.node 138 (.leaf 137 (.code aa6)) (.leaf 138 (.code aa7))) (.node 140 (.leaf 139 (.code aa8)) (.node 151 (.leaf 140 (.code aa9)) (.leaf 151 (.code aa'))))) (.node 154 (.node 153 (.leaf 152 (.code aba)) (.leaf 153 (.code abb))) (.node 155 (.leaf 154 (.code abc)) (.node 156 (.leaf 155 (.code abd)) (.leaf 156 (.code abe)))))) (.node 162 (.node 159 (.node 158 (.leaf 157 (.code abf)) (.leaf 158 (.code abg))) (.node 160 (.leaf 159 (.code Oz)) (.node 161 (.leaf 160 (.code abh)) (.leaf 161 (.code abi))))) (.node 165 (.node 163 (.leaf 162 (.code UB)) (.node 164 (.leaf 163 (.code abj)) (.leaf 164 (.code abk)))) (.node 166 (.leaf 165 (.code UF)) (.node 167 (.leaf 166 (.code abl)) (.leaf 167 (.code UI))))))) (.node 184 (.node 173 (.node 170 (.node 169 (.leaf 168 (.code UK)) (.leaf 169 (.code abm))) (.node 171 (.leaf 170 (.code abn)) (.node 172 (.leaf 171 (.code abo)) (.leaf 172 (.code abp))))) (.node 181 (.node 179 (.leaf 173 (.code abq)) (.node 180 (.leaf 179 (.code abr)) (.leaf 180 (.code abt)))) (.node 182 (.leaf 181 (.code abu)) (.node 183 (.leaf 182 (.code abv)) (.leaf 183 (.code abw)))))) (.node 189 (.node 186 (.node 185 (.leaf 184 (.code Q1)) (.leaf 185 (.code abx))) (.node 187 (.leaf 186 (.code aby)) (.node 188 (.leaf 187 (.code U0)) (.leaf 188 (.code abz))))) (.node 192 (.node 190 (.leaf 189 (.code abA)) (.node 191 (.leaf 190 (.ir v6 yv)) (.leaf 191 (.code abB)))) (.node 194 (.leaf 192 (.code abC)) (.node 195 (.leaf 194 (.ir v6 (eN 1))) (.leaf 195 (.code abD)))))))))
theorem uF:afT.All (wa Go.Proofs.Tryz.prog):=⟨⟨⟨⟨⟨⟨⟨afM,afN⟩,⟨afO,⟨afP,afQ⟩⟩⟩,⟨⟨afR,afS⟩,⟨Zg,⟨Zh,Zi⟩⟩⟩⟩,⟨⟨⟨Zj,Zk⟩,⟨Zl,⟨Zm,Zn⟩⟩⟩,⟨⟨Zo,⟨Zp,Zq⟩⟩,⟨Zr,⟨Zs,Zt⟩⟩⟩⟩⟩,⟨⟨⟨⟨Zu,Zv⟩,⟨Zw,⟨Zx,Zy⟩⟩⟩,⟨⟨Zz,ZA⟩,⟨ZB,⟨ZC,ZD⟩⟩⟩⟩,⟨⟨⟨ZE,ZF⟩,⟨ZG,⟨abE,ZH⟩⟩⟩,⟨⟨ZI,⟨ZJ,ZK⟩⟩,⟨ZL,⟨ZM,ZN⟩⟩⟩⟩⟩⟩,⟨⟨⟨⟨⟨ZO,ZP⟩,⟨ZQ,⟨ZR,ZS⟩⟩⟩,⟨⟨ZT,ZU⟩,⟨ZV,⟨ZW,ZX⟩⟩⟩⟩,⟨⟨⟨ZY,ZZ⟩,⟨Z0,⟨Z1,Z2⟩⟩⟩,⟨⟨Z3,⟨Z4,Z5⟩⟩,⟨Z6,⟨Z7,Z8⟩⟩⟩⟩⟩,⟨⟨⟨⟨Z9,Z'⟩,⟨aaa,⟨aab,aac⟩⟩⟩,⟨⟨aad,⟨aae,aaf⟩⟩,⟨aag,⟨aah,aai⟩⟩⟩⟩,⟨⟨⟨abF,aaj⟩,⟨aak,⟨aal,aam⟩⟩⟩,⟨⟨aan,⟨aao,aap⟩⟩,⟨aaq,⟨aar,aas⟩⟩⟩⟩⟩⟩⟩,⟨⟨⟨⟨⟨⟨aat,aau⟩,⟨aav,⟨aaw,aax⟩⟩⟩,⟨⟨aay,aaz⟩,⟨aaA,⟨aaB,TR⟩⟩⟩⟩,⟨⟨⟨TS,TU⟩,⟨TV,⟨TW,TX⟩⟩⟩,⟨⟨U7,⟨U8,U9⟩⟩,⟨U',⟨TY,TZ⟩⟩⟩⟩⟩,⟨⟨⟨⟨T0,T1⟩,⟨T2,⟨T3,T4⟩⟩⟩,⟨⟨T5,⟨T6,T7⟩⟩,⟨T8,⟨T9,T'⟩⟩⟩⟩,⟨⟨⟨Ua,Ub⟩,⟨Uc,⟨Ud,Ue⟩⟩⟩,⟨⟨Uf,⟨Ug,Uh⟩⟩,⟨Ui,⟨Uj,Uk⟩⟩⟩⟩⟩⟩,⟨⟨⟨⟨⟨Ul,Um⟩,⟨Un,⟨Uo,Uq⟩⟩⟩,⟨⟨Ur,Us⟩,⟨Ut,⟨Uu,Uv⟩⟩⟩⟩,⟨⟨⟨Uw,Ux⟩,⟨Uy,⟨Uz,UA⟩⟩⟩,⟨⟨UC,⟨UD,UE⟩⟩,⟨UG,⟨UH,UJ⟩⟩⟩⟩⟩,⟨⟨⟨⟨UL,UM⟩,⟨UN,⟨UO,UP⟩⟩⟩,⟨⟨UQ,⟨UR,US⟩⟩,⟨UT,⟨UU,UW⟩⟩⟩⟩,⟨⟨⟨UX,UY⟩,⟨UZ,⟨U1,U2⟩⟩⟩,⟨⟨U3,⟨Va,U4⟩⟩,⟨U5,⟨Vb,U6⟩⟩⟩⟩⟩⟩⟩⟩
noncomputable def bF:jM:=afT.get
theorem afU:bF 3=ut (.code x3):=rfl
theorem afV:bF 4=ut (.code x4):=rfl
theorem afW:bF 5=ut (.code x5):=rfl
theorem afX:bF 6=ut (.code x6):=rfl
theorem afY:bF 7=ut (.code x7):=rfl
theorem afZ:bF 8=ut (.code x8):=rfl
theorem af0:bF 9=ut (.code x9):=rfl
theorem abG:bF 10=ut (.code x10):=rfl
theorem abH:bF 11=ut (.code x11):=rfl
theorem abI:bF 12=ut (.code x12):=rfl
theorem abJ:bF 13=ut (.code x13):=rfl
theorem abK:bF 14=ut (.code x14):=rfl
theorem abL:bF 15=ut (.code x15):=rfl
theorem abM:bF 16=ut (.code x16):=rfl
theorem abN:bF 17=ut (.code x17):=rfl
theorem abO:bF 18=ut (.code x18):=rfl
theorem abP:bF 19=ut (.code x19):=rfl
theorem abQ:bF 20=ut (.code x20):=rfl
theorem abR:bF 21=ut (.code x21):=rfl
theorem abS:bF 22=ut (.code x22):=rfl
theorem abT:bF 23=ut (.code x23):=rfl
theorem abU:bF 24=ut (.code x24):=rfl
theorem abV:bF 25=ut (.code x25):=rfl
theorem Q2:bF 26=ut (.code x26):=rfl
theorem abW:bF 27=ut (.code x27):=rfl
theorem abX:bF 28=ut (.code x28):=rfl
theorem abY:bF 29=ut (.code x29):=rfl
theorem abZ:bF 30=ut (.code x30):=rfl
theorem ab0:bF 31=ut (.code x31):=rfl
theorem ab1:bF 32=ut (.code x32):=rfl
theorem ab2:bF 33=ut (.code x33):=rfl
theorem ab3:bF 34=ut (.code x34):=rfl
theorem ab4:bF 35=ut (.code x35):=rfl
theorem ab5:bF 36=ut (.code x36):=rfl
theorem ab6:bF 37=ut (.ir v6 (eN 1)):=rfl
theorem ab7:bF 38=ut (.code x38):=rfl
theorem ab8:bF 40=ut (.code x40):=rfl
theorem ab9:bF 41=ut (.code x41):=rfl
theorem ab':bF 42=ut (.code x42):=rfl
theorem aca:bF 43=ut (.code x43):=rfl
theorem acb:bF 44=ut (.code x44):=rfl
theorem acd:bF 45=ut (.code x45):=rfl
theorem ace:bF 46=ut (.code x46):=rfl
theorem acf:bF 47=ut (.code x47):=rfl
theorem acg:bF 48=ut (.code x48):=rfl
theorem ach:bF 49=ut (.code x49):=rfl
theorem aci:bF 50=ut (.code x50):=rfl
theorem acj:bF 51=ut (.code x51):=rfl
theorem ack:bF 52=ut (.code x52):=rfl
theorem acm:bF 53=ut (.code x53):=rfl
theorem acn:bF 54=ut (.code x54):=rfl
theorem aco:bF 55=ut (.code x55):=rfl
theorem acp:bF 56=ut (.code x56):=rfl
theorem acq:bF 57=ut (.code x57):=rfl
theorem acr:bF 58=ut (.code x58):=rfl
theorem acs:bF 59=ut (.code x59):=rfl
theorem acu:bF 60=ut (.code x60):=rfl
theorem acv:bF 61=ut (.code x61):=rfl
theorem acw:bF 62=ut (.code x62):=rfl
theorem acx:bF 63=ut (.code x63):=rfl
theorem acy:bF 64=ut (.code x64):=rfl
theorem acz:bF 65=ut (.code x65):=rfl
theorem acA:bF 66=ut (.code x66):=rfl
theorem acB:bF 67=ut (.code x67):=rfl
theorem acC:bF 68=ut (.code x68):=rfl
theorem Q3:bF 69=ut (.code x69):=rfl
theorem acD:bF 70=ut (.code x70):=rfl
theorem acE:bF 71=ut (.code x71):=rfl
theorem Q4:bF 73=ut (.code x73):=rfl
theorem Q5:bF 75=ut (.code x75):=rfl
theorem acF:bF 76=ut (.code x76):=rfl
theorem acG:bF 77=ut (.code x77):=rfl
theorem acH:bF 78=ut (.code x78):=rfl
theorem acI:bF 79=ut (.code x79):=rfl
theorem acJ:bF 80=ut (.ir v6 (eN 3)):=rfl
theorem acK:bF 81=ut (.code x81):=rfl
theorem acL:bF 82=ut (.code x82):=rfl
theorem acM:bF 83=ut (.code x83):=rfl
theorem Q6:bF 84=ut (.code x84):=rfl
theorem Q7:bF 85=ut (.code x85):=rfl
theorem acN:bF 86=ut (.code x86):=rfl
theorem acO:bF 87=ut (.code x87):=rfl
theorem acP:bF 88=ut (.code x88):=rfl
theorem acQ:bF 89=ut (.code x89):=rfl
theorem acR:bF 90=ut (.code x90):=rfl
theorem acS:bF 91=ut (.code x91):=rfl
theorem acT:bF 92=ut (.code x92):=rfl
theorem acU:bF 93=ut (.code x93):=rfl
theorem acV:bF 94=ut (.code x94):=rfl
theorem acW:bF 95=ut (.code x95):=rfl
theorem acX:bF 96=ut (.code x96):=rfl
theorem acY:bF 97=ut (.code x97):=rfl
theorem acZ:bF 98=ut (.code x98):=rfl
theorem ac0:bF 99=ut (.code x99):=rfl
theorem Vc:bF 100=ut (.code aaC):=rfl
theorem Vd:bF 101=ut (.code aaD):=rfl
theorem Ve:bF 102=ut (.code aaE):=rfl
theorem Vf:bF 103=ut (.code aaF):=rfl
theorem Vg:bF 104=ut (.code aaG):=rfl
theorem Vh:bF 105=ut (.code aaH):=rfl
theorem Vi:bF 106=ut (.ir v6 (eN 3)):=rfl
theorem Vj:bF 107=ut (.ir v6 (eN 3)):=rfl
theorem Vk:bF 108=ut (.ir v6 (eN 5)):=rfl
theorem Vl:bF 109=ut (.ir v6 (eN 1)):=rfl
theorem Vn:bF 110=ut (.code aaI):=rfl
theorem Vo:bF 112=ut (.code aaJ):=rfl
theorem Vp:bF 113=ut (.code aaK):=rfl
theorem Vq:bF 116=ut (.code aaL):=rfl
theorem Vr:bF 117=ut (.code aaM):=rfl
theorem Vs:bF 118=ut (.code aaN):=rfl
theorem Vt:bF 119=ut (.code aaO):=rfl
theorem MP:bF 120=ut (.code aaP):=rfl
theorem Vu:bF 121=ut (.code aaQ):=rfl
theorem Vv:bF 122=ut (.code aaR):=rfl
theorem Vw:bF 123=ut (.code aaS):=rfl
theorem Vx:bF 124=ut (.code aaT):=rfl
theorem Vy:bF 125=ut (.code aaU):=rfl
theorem MQ:bF 126=ut (.code aaV):=rfl
theorem Vz:bF 127=ut (.code aaW):=rfl
theorem VA:bF 128=ut (.code aaX):=rfl
theorem VB:bF 129=ut (.code aaY):=rfl
theorem VC:bF 130=ut (.code aaZ):=rfl
theorem VD:bF 131=ut (.code aa0):=rfl
theorem VE:bF 132=ut (.code aa1):=rfl
theorem VF:bF 133=ut (.code aa2):=rfl
theorem VG:bF 134=ut (.code aa3):=rfl
theorem VH:bF 135=ut (.code aa4):=rfl
theorem VI:bF 136=ut (.code aa5):=rfl
theorem VJ:bF 137=ut (.code aa6):=rfl
theorem VK:bF 138=ut (.code aa7):=rfl
theorem VL:bF 139=ut (.code aa8):=rfl
theorem VM:bF 140=ut (.code aa9):=rfl
theorem VN:bF 151=ut (.code aa'):=rfl
theorem VO:bF 152=ut (.code aba):=rfl
theorem VP:bF 153=ut (.code abb):=rfl
theorem MR:bF 154=ut (.code abc):=rfl
theorem VQ:bF 155=ut (.code abd):=rfl
theorem VS:bF 156=ut (.code abe):=rfl
theorem VT:bF 157=ut (.code abf):=rfl
theorem VU:bF 158=ut (.code abg):=rfl
theorem Hg:bF 159=ut (.code Oz):=rfl
theorem MS:bF 160=ut (.code abh):=rfl
theorem VV:bF 161=ut (.code abi):=rfl
theorem MT:bF 162=ut (.code UB):=rfl
theorem VW:bF 163=ut (.code abj):=rfl
theorem VX:bF 164=ut (.code abk):=rfl
theorem MU:bF 165=ut (.code UF):=rfl
theorem VY:bF 166=ut (.code abl):=rfl
theorem VZ:bF 167=ut (.code UI):=rfl
theorem V0:bF 168=ut (.code UK):=rfl
theorem V1:bF 169=ut (.code abm):=rfl
theorem V2:bF 170=ut (.code abn):=rfl
theorem V3:bF 171=ut (.code abo):=rfl
theorem V4:bF 172=ut (.code abp):=rfl
theorem V5:bF 173=ut (.code abq):=rfl
theorem V6:bF 179=ut (.code abr):=rfl
theorem V7:bF 180=ut (.code abt):=rfl
theorem MV:bF 181=ut (.code abu):=rfl
theorem V8:bF 182=ut (.code abv):=rfl
theorem V9:bF 183=ut (.code abw):=rfl
theorem MW:bF 184=ut (.code Q1):=rfl
theorem V':bF 185=ut (.code abx):=rfl
theorem Wb:bF 186=ut (.code aby):=rfl
theorem Wc:bF 187=ut (.code U0):=rfl
theorem Wd:bF 188=ut (.code abz):=rfl
theorem We:bF 189=ut (.code abA):=rfl
theorem Wf:bF 190=ut (.ir v6 yv):=rfl
theorem Wg:bF 191=ut (.code abB):=rfl
theorem Wh:bF 192=ut (.code abC):=rfl
theorem Wi:bF 194=ut (.ir v6 (eN 1)):=rfl
theorem Wj:bF 195=ut (.code abD):=rfl
end Go.Proofs.YtmikolhhnhndkaaGreat
