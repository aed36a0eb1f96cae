/- The table of the seat's functions. Printed by a program. -/
import Derived.Test.YtmndepnolpbnpaaGreatSQX1
import Derived.Test.YtmndepnolpbnpaaGreatSQIW
import Derived.Test.YtmndepnolpbnpaaGreatChecked
open Option renaming some->pm
open Bool renaming false->pp
set_option maxRecDepth 100000
namespace Go.Proofs.YtmndepnolpbnpaaGreat
open Go.Vm
theorem iQ:Go.Proofs.Tryz.prog.follows .mixedOrders=true:=Go.Proofs.Tryz.checked.mixed
theorem Wi:om Go.Proofs.Tryz.prog 35 (.fb pp (Gk [.i .i64,.i .i64,.i .i64] iP)):=Nb
theorem Wj:om Go.Proofs.Tryz.prog 36 (.fb pp (Gj [.i .i64,.i .i64,.i .i64] [.i .i64] ov)):=Na
theorem Wk:om Go.Proofs.Tryz.prog 46 (.fb pp (dJ 3)):=⟨rfl,jJ iQ (zero:=[.int .i64 0,.int .i64 0,.int .i64 0]) (by decide+kernel)⟩
theorem Wl:om Go.Proofs.Tryz.prog 92 (.fb pp (dJ 3)):=⟨rfl,jJ iQ (zero:=[.int .i64 0,.int .i64 0,.int .i64 0]) (by decide+kernel)⟩
theorem Wm:om Go.Proofs.Tryz.prog 93 (.fb pp (dJ 3)):=⟨rfl,jJ iQ (zero:=[.int .i64 0,.int .i64 0,.int .i64 0]) (by decide+kernel)⟩
theorem Wn:om Go.Proofs.Tryz.prog 94 (.fb pp (dJ 5)):=⟨rfl,jJ iQ (zero:=[.int .i64 0,.int .i64 0,.int .i64 0,.int .i64 0,.int .i64 0]) (by decide+kernel)⟩
theorem Wo:om Go.Proofs.Tryz.prog 95 (.fb pp (dJ 1)):=⟨rfl,jJ iQ (zero:=[.int .i64 0]) (by decide+kernel)⟩
theorem Wp:om Go.Proofs.Tryz.prog 96 (.fb pp (dJ 1)):=⟨rfl,jJ iQ (zero:=[.bool pp]) (by decide+kernel)⟩
theorem QC:om Go.Proofs.Tryz.prog 137 (.fb pp vK):=⟨rfl,Hp Go.Proofs.Tryz.func137 (by kernel_rfl) (by kernel_rfl) (by kernel_rfl) (by kernel_rfl)⟩
theorem QD:om Go.Proofs.Tryz.prog 159 (.fb pp (dJ 1)):=⟨rfl,jJ iQ (zero:=[.int .i64 0]) (by decide+kernel)⟩
noncomputable def aav:TT:= .node 82 (.node 42 (.node 22 (.node 12 (.node 7 (.node 5 (.node 4 (.leaf 3 (.code x3)) (.leaf 4 (.code x4))) (.node 6 (.leaf 5 (.code x5)) (.leaf 6 (.code x6)))) (.node 9 (.node 8 (.leaf 7 (.code x7)) (.leaf 8 (.code x8))) (.node 10 (.leaf 9 (.code x9)) (.node 11 (.leaf 10 (.code x10)) (.leaf 11 (.code x11)))))) (.node 17 (.node 14 (.node 13 (.leaf 12 (.code x12)) (.leaf 13 (.code x13))) (.node 15 (.leaf 14 (.code x14)) (.node 16 (.leaf 15 (.code x15)) (.leaf 16 (.code x16))))) (.node 19 (.node 18 (.leaf 17 (.code x17)) (.leaf 18 (.code x18))) (.node 20 (.leaf 19 (.code x19)) (.node 21 (.leaf 20 (.code x20)) (.leaf 21 (.code x21))))))) (.node 32 (.node 27 (.node 24 (.node 23 (.leaf 22 (.code x22)) (.leaf 23 (.code x23))) (.node 25 (.leaf 24 (.code x24)) (.node 26 (.leaf 25 (.code x25)) (.leaf 26 (.code x26))))) (.node 29 (.node 28 (.leaf 27 (.code x27)) (.leaf 28 (.code x28))) (.node 30 (.leaf 29 (.code x29)) (.node 31 (.leaf 30 (.code x30)) (.leaf 31 (.code x31)))))) (.node 37 (.node 34 (.node 33 (.leaf 32 (.code x32)) (.leaf 33 (.code x33))) (.node 35 (.leaf 34 (.code x34)) (.node 36 (.leaf 35 (.fb pp (Gk [.i .i64,.i .i64,.i .i64] iP))) (.leaf 36 (.fb pp (Gj [.i .i64,.i .i64,.i .i64] [.i .i64] ov)))))) (.node 39 (.node 38 (.leaf 37 (.code x37)) (.leaf 38 (.code x38))) (.node 40 (.leaf 39 (.code x39)) (.node 41 (.leaf 40 (.code x40)) (.leaf 41 (.code x41)))))))) (.node 62 (.node 51 (.node 46 (.node 44 (.node 43 (.leaf 42 (.code x42)) (.leaf 43 (.code x43))) (.node 45 (.leaf 44 (.code x44)) (.leaf 45 (.code x45)))) (.node 48 (.node 47 (.leaf 46 (.fb pp (dJ 3))) (.leaf 47 (.code x47))) (.node 49 (.leaf 48 (.code x48)) (.node 50 (.leaf 49 (.code x49)) (.leaf 50 (.code x50)))))) (.node 57 (.node 53 (.node 52 (.leaf 51 (.code x51)) (.leaf 52 (.code x52))) (.node 54 (.leaf 53 (.code x53)) (.node 56 (.leaf 54 (.code x54)) (.leaf 56 (.code x56))))) (.node 59 (.node 58 (.leaf 57 (.code x57)) (.leaf 58 (.code x58))) (.node 60 (.leaf 59 (.code x59)) (.node 61 (.leaf 60 (.code x60)) (.leaf 61 (.code x61))))))) (.node 72 (.node 67 (.node 64 (.node 63 (.leaf 62 (.code x62)) (.leaf 63 (.code x63))) (.node 65 (.leaf 64 (.code x64)) (.node 66 (.leaf 65 (.code x65)) (.leaf 66 (.code x66))))) (.node 69 (.node 68 (.leaf 67 (.code x67)) (.leaf 68 (.code x68))) (.node 70 (.leaf 69 (.code x69)) (.node 71 (.leaf 70 (.code x70)) (.leaf 71 (.code x71)))))) (.node 77 (.node 74 (.node 73 (.leaf 72 (.code x72)) (.leaf 73 (.code x73))) (.node 75 (.leaf 74 (.code x74)) (.node 76 (.leaf 75 (.code x75)) (.leaf 76 (.code x76))))) (.node 79 (.node 78 (.leaf 77 (.code x77)) (.leaf 78 (.code x78))) (.node 80 (.leaf 79 (.code x79)) (.node 81 (.leaf 80 (.code x80)) (.leaf 81 (.code x81))))))))) (.node 121 (.node 101 (.node 91 (.node 86 (.node 84 (.node 83 (.leaf 82 (.code x82)) (.leaf 83 (.code x83))) (.node 85 (.leaf 84 (.code x84)) (.leaf 85 (.code x85)))) (.node 88 (.node 87 (.leaf 86 (.code x86)) (.leaf 87 (.code x87))) (.node 89 (.leaf 88 (.code x88)) (.node 90 (.leaf 89 (.code x89)) (.leaf 90 (.code x90)))))) (.node 96 (.node 93 (.node 92 (.leaf 91 (.code x91)) (.leaf 92 (.fb pp (dJ 3)))) (.node 94 (.leaf 93 (.fb pp (dJ 3))) (.node 95 (.leaf 94 (.fb pp (dJ 5))) (.leaf 95 (.fb pp (dJ 1)))))) (.node 98 (.node 97 (.leaf 96 (.fb pp (dJ 1))) (.leaf 97 (.code x97))) (.node 99 (.leaf 98 (.code x98)) (.node 100 (.leaf 99 (.code x99)) (.leaf 100 (.code Vu))))))) (.node 111 (.node 106 (.node 103 (.node 102 (.leaf 101 (.code Vv)) (.leaf 102 (.code Vw))) (.node 104 (.leaf 103 (.code Vx)) (.node 105 (.leaf 104 (.code PB)) (.leaf 105 (.code Vy))))) (.node 108 (.node 107 (.leaf 106 (.code Vz)) (.leaf 107 (.code VA))) (.node 109 (.leaf 108 (.code VB)) (.node 110 (.leaf 109 (.code VC)) (.leaf 110 (.code VD)))))) (.node 116 (.node 113 (.node 112 (.leaf 111 (.code VE)) (.leaf 112 (.code VF))) (.node 114 (.leaf 113 (.code VG)) (.node 115 (.leaf 114 (.code VH)) (.leaf 115 (.code VI))))) (.node 118 (.node 117 (.leaf 116 (.code VJ)) (.leaf 117 (.code VK))) (.node 119 (.leaf 118 (.code VL)) (.node 120 (.leaf 119 (.code VM)) (.leaf 120 (.code VN)))))))) (.node 140 (.node 130 (.node 125 (.node 123 (.node 122 (.leaf 121 (.code VO)) (.leaf 122 (.code VP))) (.node 124 (.leaf 123 (.code VQ)) (.leaf 124 (.code VS)))) (.node 127 (.node 126 (.leaf 125 (.code VT)) (.leaf 126 (.code VU))) (.node 128 (.leaf 127 (.code VV)) (.node 129 (.leaf 128 (.code VW)) (.leaf 129 (.code VX)))))) (.node 135 (.node 132 (.node 131 (.leaf 130 (.code VY)) (.leaf 131 (.code P6))) (.node 133 (.leaf 132 (.code P8)) (.node 134 (.leaf 133 (.code VZ)) (.leaf 134 (.code V0))))) (.node 137 (.node 136 (.leaf 135 (.code V1)) (.leaf 136 (.code V2))) (.node 138 (.leaf 137 (.fb pp vK)) (.node 139 (.leaf 138 (.code V3)) (.leaf 139 (.code V4))))))) (.node 150 (.node 145 (.node 142 (.node 141 (.leaf 140 (.code V5)) (.leaf 141 (.code V6))) (.node 143 (.leaf 142 (.code V7)) (.node 144 (.leaf 143 (.code KP)) (.leaf 144 (.code V8))))) (.node 147 (.node 146 (.leaf 145 (.code V9)) (.leaf 146 (.code V'))) (.node 148 (.leaf 147 (.code Qm)) (.node 149 (.leaf 148 (.code Wa)) (.leaf 149 (.code Qp)))))) (.node 155 (.node 152 (.node 151 (.leaf 150 (.code Qr)) (.leaf 151 (.code Wb))) (.node 153 (.leaf 152 (.code Wc)) (.node 154 (.leaf 153 (.code M9)) (.leaf 154 (.code Wd))))) (.node 157 (.node 156 (.leaf 155 (.code We)) (.leaf 156 (.code Wf))) (.node 158 (.leaf 157 (.code Wg)) (.node 159 (.leaf 158 (.code Wh)) (.leaf 159 (.fb pp (dJ 1))))))))))
theorem Jr:aav.Yy (om Go.Proofs.Tryz.prog):=⟨⟨⟨⟨⟨⟨⟨aan,aao⟩,⟨aap,aaq⟩⟩,⟨⟨aar,aas⟩,⟨aat,⟨T',Ua⟩⟩⟩⟩,⟨⟨⟨Ub,Uc⟩,⟨Ud,⟨Ue,Uf⟩⟩⟩,⟨⟨Ug,Uh⟩,⟨Ui,⟨Uj,Uk⟩⟩⟩⟩⟩,⟨⟨⟨⟨Ul,Um⟩,⟨Un,⟨Uo,Uq⟩⟩⟩,⟨⟨Ur,Us⟩,⟨Ut,⟨Uu,Uv⟩⟩⟩⟩,⟨⟨⟨Uw,Ux⟩,⟨Uy,⟨Wi,Wj⟩⟩⟩,⟨⟨Uz,UA⟩,⟨UB,⟨UC,UD⟩⟩⟩⟩⟩⟩,⟨⟨⟨⟨⟨UE,UF⟩,⟨UG,UH⟩⟩,⟨⟨Wk,UI⟩,⟨UJ,⟨UK,UL⟩⟩⟩⟩,⟨⟨⟨UM,UN⟩,⟨UO,⟨UP,UQ⟩⟩⟩,⟨⟨UR,US⟩,⟨UT,⟨UU,UW⟩⟩⟩⟩⟩,⟨⟨⟨⟨UX,UY⟩,⟨UZ,⟨U0,U1⟩⟩⟩,⟨⟨U2,U3⟩,⟨U4,⟨U5,U6⟩⟩⟩⟩,⟨⟨⟨U7,U8⟩,⟨U9,⟨U',Va⟩⟩⟩,⟨⟨Vb,Vc⟩,⟨Vd,⟨Ve,Vf⟩⟩⟩⟩⟩⟩⟩,⟨⟨⟨⟨⟨⟨Vg,Vh⟩,⟨Vi,Vj⟩⟩,⟨⟨Vk,Vl⟩,⟨Vn,⟨Vo,Vp⟩⟩⟩⟩,⟨⟨⟨Vq,Wl⟩,⟨Wm,⟨Wn,Wo⟩⟩⟩,⟨⟨Wp,Vr⟩,⟨Vs,⟨Vt,Px⟩⟩⟩⟩⟩,⟨⟨⟨⟨Py,Pz⟩,⟨PA,⟨PC,PD⟩⟩⟩,⟨⟨PE,PF⟩,⟨PG,⟨PH,PI⟩⟩⟩⟩,⟨⟨⟨PJ,PK⟩,⟨PL,⟨PM,PN⟩⟩⟩,⟨⟨PO,PQ⟩,⟨PR,⟨PS,PU⟩⟩⟩⟩⟩⟩,⟨⟨⟨⟨⟨PW,PX⟩,⟨PY,PZ⟩⟩,⟨⟨P0,P1⟩,⟨P2,⟨P3,P4⟩⟩⟩⟩,⟨⟨⟨P5,P7⟩,⟨P9,⟨P',Qa⟩⟩⟩,⟨⟨Qb,Qc⟩,⟨QC,⟨Qd,Qe⟩⟩⟩⟩⟩,⟨⟨⟨⟨Qf,Qg⟩,⟨Qh,⟨Qi,Qj⟩⟩⟩,⟨⟨Qk,Ql⟩,⟨Qn,⟨Qo,Qq⟩⟩⟩⟩,⟨⟨⟨Qs,Qt⟩,⟨Qu,⟨Qv,Qw⟩⟩⟩,⟨⟨Qx,Qy⟩,⟨Qz,⟨QA,QD⟩⟩⟩⟩⟩⟩⟩⟩
noncomputable def bB:jl:=aav.get
theorem SU:bB 3=pm (.code x3):=rfl
theorem aaw:bB 4=pm (.code x4):=rfl
theorem aax:bB 5=pm (.code x5):=rfl
theorem aay:bB 6=pm (.code x6):=rfl
theorem aaz:bB 7=pm (.code x7):=rfl
theorem aaA:bB 8=pm (.code x8):=rfl
theorem aaB:bB 9=pm (.code x9):=rfl
theorem Wq:bB 10=pm (.code x10):=rfl
theorem Wr:bB 11=pm (.code x11):=rfl
theorem Ws:bB 12=pm (.code x12):=rfl
theorem Wt:bB 13=pm (.code x13):=rfl
theorem Wu:bB 14=pm (.code x14):=rfl
theorem Wv:bB 15=pm (.code x15):=rfl
theorem Ww:bB 16=pm (.code x16):=rfl
theorem Wx:bB 17=pm (.code x17):=rfl
theorem Wy:bB 18=pm (.code x18):=rfl
theorem Wz:bB 19=pm (.code x19):=rfl
theorem WA:bB 20=pm (.code x20):=rfl
theorem WB:bB 21=pm (.code x21):=rfl
theorem WC:bB 22=pm (.code x22):=rfl
theorem WD:bB 23=pm (.code x23):=rfl
theorem WE:bB 24=pm (.code x24):=rfl
theorem WG:bB 25=pm (.code x25):=rfl
theorem WH:bB 26=pm (.code x26):=rfl
theorem WI:bB 27=pm (.code x27):=rfl
theorem WJ:bB 28=pm (.code x28):=rfl
theorem WK:bB 29=pm (.code x29):=rfl
theorem Nc:bB 30=pm (.code x30):=rfl
theorem WL:bB 31=pm (.code x31):=rfl
theorem WM:bB 32=pm (.code x32):=rfl
theorem WN:bB 33=pm (.code x33):=rfl
theorem WQ:bB 34=pm (.code x34):=rfl
theorem WR:bB 35=pm (.fb pp (Gk [.i .i64,.i .i64,.i .i64] iP)):=rfl
theorem WT:bB 36=pm (.fb pp (Gj [.i .i64,.i .i64,.i .i64] [.i .i64] ov)):=rfl
theorem WU:bB 37=pm (.code x37):=rfl
theorem WV:bB 38=pm (.code x38):=rfl
theorem WX:bB 39=pm (.code x39):=rfl
theorem WY:bB 40=pm (.code x40):=rfl
theorem WZ:bB 41=pm (.code x41):=rfl
theorem W3:bB 42=pm (.code x42):=rfl
theorem W4:bB 43=pm (.code x43):=rfl
theorem W6:bB 44=pm (.code x44):=rfl
theorem W7:bB 45=pm (.code x45):=rfl
theorem W8:bB 46=pm (.fb pp (dJ 3)):=rfl
theorem W9:bB 47=pm (.code x47):=rfl
theorem Xa:bB 48=pm (.code x48):=rfl
theorem Xb:bB 49=pm (.code x49):=rfl
theorem Xc:bB 50=pm (.code x50):=rfl
theorem Xd:bB 51=pm (.code x51):=rfl
theorem Xe:bB 52=pm (.code x52):=rfl
theorem Xf:bB 53=pm (.code x53):=rfl
theorem Xg:bB 54=pm (.code x54):=rfl
theorem Xh:bB 56=pm (.code x56):=rfl
theorem Xi:bB 57=pm (.code x57):=rfl
theorem Xj:bB 58=pm (.code x58):=rfl
theorem Xk:bB 59=pm (.code x59):=rfl
theorem Xl:bB 60=pm (.code x60):=rfl
theorem Xm:bB 61=pm (.code x61):=rfl
theorem Xn:bB 62=pm (.code x62):=rfl
theorem Xo:bB 63=pm (.code x63):=rfl
theorem Xp:bB 64=pm (.code x64):=rfl
theorem Nf:bB 65=pm (.code x65):=rfl
theorem Xq:bB 66=pm (.code x66):=rfl
theorem Xr:bB 67=pm (.code x67):=rfl
theorem Ng:bB 68=pm (.code x68):=rfl
theorem Xs:bB 69=pm (.code x69):=rfl
theorem Xt:bB 70=pm (.code x70):=rfl
theorem Xu:bB 71=pm (.code x71):=rfl
theorem Nh:bB 72=pm (.code x72):=rfl
theorem Xv:bB 73=pm (.code x73):=rfl
theorem Xw:bB 74=pm (.code x74):=rfl
theorem Xx:bB 75=pm (.code x75):=rfl
theorem Ni:bB 76=pm (.code x76):=rfl
theorem H4:bB 77=pm (.code x77):=rfl
theorem Xy:bB 78=pm (.code x78):=rfl
theorem Xz:bB 79=pm (.code x79):=rfl
theorem XA:bB 80=pm (.code x80):=rfl
theorem XB:bB 81=pm (.code x81):=rfl
theorem XC:bB 82=pm (.code x82):=rfl
theorem XD:bB 83=pm (.code x83):=rfl
theorem XE:bB 84=pm (.code x84):=rfl
theorem XF:bB 85=pm (.code x85):=rfl
theorem XG:bB 86=pm (.code x86):=rfl
theorem XH:bB 87=pm (.code x87):=rfl
theorem XI:bB 88=pm (.code x88):=rfl
theorem XJ:bB 89=pm (.code x89):=rfl
theorem XK:bB 90=pm (.code x90):=rfl
theorem XL:bB 91=pm (.code x91):=rfl
theorem XM:bB 92=pm (.fb pp (dJ 3)):=rfl
theorem XN:bB 93=pm (.fb pp (dJ 3)):=rfl
theorem XO:bB 94=pm (.fb pp (dJ 5)):=rfl
theorem XP:bB 95=pm (.fb pp (dJ 1)):=rfl
theorem XQ:bB 96=pm (.fb pp (dJ 1)):=rfl
theorem XS:bB 97=pm (.code x97):=rfl
theorem XT:bB 98=pm (.code x98):=rfl
theorem XU:bB 99=pm (.code x99):=rfl
theorem QE:bB 100=pm (.code Vu):=rfl
theorem QF:bB 101=pm (.code Vv):=rfl
theorem QG:bB 102=pm (.code Vw):=rfl
theorem QH:bB 103=pm (.code Vx):=rfl
theorem Js:bB 104=pm (.code PB):=rfl
theorem QI:bB 105=pm (.code Vy):=rfl
theorem QJ:bB 106=pm (.code Vz):=rfl
theorem QK:bB 107=pm (.code VA):=rfl
theorem QL:bB 108=pm (.code VB):=rfl
theorem QM:bB 109=pm (.code VC):=rfl
theorem QN:bB 110=pm (.code VD):=rfl
theorem Eu:bB 111=pm (.code VE):=rfl
theorem QO:bB 112=pm (.code VF):=rfl
theorem QP:bB 113=pm (.code VG):=rfl
theorem QQ:bB 114=pm (.code VH):=rfl
theorem QR:bB 115=pm (.code VI):=rfl
theorem QS:bB 116=pm (.code VJ):=rfl
theorem QT:bB 117=pm (.code VK):=rfl
theorem QU:bB 118=pm (.code VL):=rfl
theorem QV:bB 119=pm (.code VM):=rfl
theorem QW:bB 120=pm (.code VN):=rfl
theorem QX:bB 121=pm (.code VO):=rfl
theorem QY:bB 122=pm (.code VP):=rfl
theorem QZ:bB 123=pm (.code VQ):=rfl
theorem Q0:bB 124=pm (.code VS):=rfl
theorem Q1:bB 125=pm (.code VT):=rfl
theorem Q2:bB 126=pm (.code VU):=rfl
theorem Q3:bB 127=pm (.code VV):=rfl
theorem Q4:bB 128=pm (.code VW):=rfl
theorem Q5:bB 129=pm (.code VX):=rfl
theorem Q6:bB 130=pm (.code VY):=rfl
theorem Q7:bB 131=pm (.code P6):=rfl
theorem Q8:bB 132=pm (.code P8):=rfl
theorem Q9:bB 133=pm (.code VZ):=rfl
theorem Q':bB 134=pm (.code V0):=rfl
theorem Jt:bB 135=pm (.code V1):=rfl
theorem Ra:bB 136=pm (.code V2):=rfl
theorem Rb:bB 137=pm (.fb pp vK):=rfl
theorem Rc:bB 138=pm (.code V3):=rfl
theorem Rd:bB 139=pm (.code V4):=rfl
theorem Re:bB 140=pm (.code V5):=rfl
theorem Rf:bB 141=pm (.code V6):=rfl
theorem Rg:bB 142=pm (.code V7):=rfl
theorem Ew:bB 143=pm (.code KP):=rfl
theorem Ju:bB 144=pm (.code V8):=rfl
theorem Rh:bB 145=pm (.code V9):=rfl
theorem Ri:bB 146=pm (.code V'):=rfl
theorem Jv:bB 147=pm (.code Qm):=rfl
theorem Rj:bB 148=pm (.code Wa):=rfl
theorem Jw:bB 149=pm (.code Qp):=rfl
theorem Rk:bB 150=pm (.code Qr):=rfl
theorem Rl:bB 151=pm (.code Wb):=rfl
theorem Rm:bB 152=pm (.code Wc):=rfl
theorem Jx:bB 153=pm (.code M9):=rfl
theorem Rn:bB 154=pm (.code Wd):=rfl
theorem Jy:bB 155=pm (.code We):=rfl
theorem Ro:bB 156=pm (.code Wf):=rfl
theorem Rp:bB 157=pm (.code Wg):=rfl
theorem Rq:bB 158=pm (.code Wh):=rfl
theorem Rr:bB 159=pm (.fb pp (dJ 1)):=rfl
end Go.Proofs.YtmndepnolpbnpaaGreat
