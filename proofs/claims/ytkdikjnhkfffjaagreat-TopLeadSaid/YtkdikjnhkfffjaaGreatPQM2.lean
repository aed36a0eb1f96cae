/- Plain laws (2). -/
import Derived.Test.YtkdikjnhkfffjaaGreatPQM1
open Classical renaming not_not->EQ
open Bool renaming not_true->If,eq_iff_iff->abr,not_false->abu,true->abF,false->abK
open Int renaming toNat_natCast->IR
open List renaming length_set->NE,drop_eq_nil_iff->WF,mem_map->aai,drop_length->ab0,mem_cons->abv,length_append->abw,pairwise_cons->abx,isEmpty_iff->aby,length_map->abz,replicate->abA,length->abD
open Nat renaming le_refl->PP,ble_eq_true_of_le->UV,lt_trichotomy->aaQ,eq_of_beq_eq_true->abt,sub_self->abB,beq->abC
open Prod renaming ext->aaP
open Iff renaming rfl->abq
open Option renaming some->abE
open Decidable renaming decide->abL
namespace Go.Proofs.YtkdikjnhkfffjaaGreat
open Go.Vm Classical
theorem ON(a:aS)(fit:CY a)(so:iE a.ai)(wl:(abD a.aC)=abD a.ai.ay):
 aq nY (a.aC,((abD a.aC):Int),0,a.ai.ay,a.ai.be,a.ai.bi,a.bv,a.aC)=abE (if(∀i,i<abD a.ai.ay->OL a i)/\(∀k,k<abD a.bv->Q2 a.bv k)then 0 else 8):=by
 have hu:=so.ul;have hn:=so.n2;have M5:=OM a.bv a.ai.ay a.ai.bi a.aC a.ai.be fit.hp fit.aau;have key:=eo (body:=nY) (λi=>(a.aC,((abD a.aC):Int),(i:Int),a.ai.ay,a.ai.be,a.ai.bi,a.bv,a.aC)) (abD a.aC) (λi=> ¬OL a i) (e:=if(∀k,k<abD a.bv->Q2 a.bv k)then 0 else 8) (λi hi=>by
  have e1:abL ((i:Int)<((abD a.aC):Int))=abF:=az (by omega);unfold nY;simp (disch:=omega) only[aK,e1,ar,aj,aM];unfold OL;generalize a.aC[i]! =w at*;cases hb:a.ai.be[i]! with
  |false=>
   simp only[]
   by_cases hw:w= -1
   ·rw[bw hw]
    exact⟨λh=>absurd ⟨λh=>(by cases h),λ_=>hw⟩ h,λ_=>rfl⟩
   rw[dV hw]
   exact⟨λ_=>rfl,λh=>absurd ((EQ.1 h).2 trivial) hw⟩
  |true=>
   simp only[]
   by_cases b1:w<0
   ·rw[az b1]
    exact⟨λ_=>rfl,λh=>absurd ((EQ.1 h).1 trivial).1 (by omega)⟩
   by_cases b2:((abD a.bv):Int)<=w
   ·rw[aA b1,az b2]
    exact⟨λ_=>rfl,λh=>absurd ((EQ.1 h).1 trivial).2.1 (by omega)⟩
   rw[aA b1,aA b2];simp (disch:=omega) only[kT,aj]
   by_cases b3:(a.bv[w.toNat]!).2.2.2.1=i
   ·by_cases b4:(a.bv[w.toNat]!).2.2.2.2=a.ai.ay[i]!
    ·rw[lZ b3,lZ b4]
     exact⟨λh=>absurd ⟨λ_=>⟨by omega,by omega,b3,b4⟩,λh=>(by cases h)⟩ h,λ_=>rfl⟩
    rw[lZ b3,jA b4]
    exact⟨λ_=>rfl,λh=>absurd ((EQ.1 h).1 trivial).2.2.2 b4⟩
   rw[jA b3]
   exact⟨λ_=>rfl,λh=>absurd ((EQ.1 h).1 trivial).2.2.1 b3⟩) (by
  unfold nY;simp[]
  by_cases hx: ∀k,k<abD a.bv->Q2 a.bv k
  ·rw[AC hx];exact M5.1 hx
  rw[Do hx];exact M5.2 hx)
 grind
theorem lA(a:aS)(fit:CY a):lO a=abE (if gb a then 0 else 8):=by
 have hh:=fit.hp;unfold lO;rw[zw _ fit.fr];simp only[aK]
 by_cases so:iE a.ai
 case neg=>rw[Do so,Do (λh=>so h.so)];rfl
 have hu:=so.ul;have hn:=so.n2;have hf:=so.fl;rw[AC so];simp only[aj,show((0:Int) !=0)=abK from rfl,ww]
 by_cases wl:(abD a.aC)=abD a.ai.ay
 case neg=>rw[dV (by omega),Do (λh=>wl h.wl)];rfl
 rw[bw (by omega)];have e:aa .i64 (((abD a.ai.be):Int) - ((abD a.ai.bi):Int))=((abD a.ai.ay-(abD a.ai.bi):Nat):Int):=by rw[wi];omega
 rw[e]
 by_cases hl:(abD a.bv)+abD a.ai.bi=abD a.ai.ay
 case neg=>rw[dV (by omega),Do (λh=>hl h.hl)];rfl
 rw[bw (by omega)];simp only[ww];rw[ON a fit so wl]
 by_cases ok:gb a
 ·rw[AC ok,AC ok.to]
 rw[Do ok,Do]
 intro h;exact ok (gb.of fit so wl hl h.1 h.2)
theorem aav{x y:Ev}(hx:jb (x.1,x.2.1))(hy:jb (y.1,y.2.1)):Bh x y=abE (abL (less x y)):=by
 unfold Bh less;rw[EY hx hy]
 grind
theorem Vj{s:bF}(ok:iE s)(h:Int×Int):xU s h=abE (abL (Af s h)):=by
 have hu:=ok.ul;unfold xU Af
 by_cases a1:0<=h.1
 ·by_cases a2:h.1<abD s.ay
  ·simp (disch:=omega) only[kT,]
   grind
  simp[a2]
 simp[a1]
theorem W4(a:aS)(so:iE a.ai):wZ a=abE (abL (abD a.aC=abD a.ai.ay/\abD a.bv+abD a.ai.bi=abD a.ai.ay/\ ∀i,i<abD a.ai.ay->OL a i)):=by
 have hu:=so.ul;have hn:=so.n2;have hf:=so.fl;unfold wZ;simp only[aK]
 by_cases wl:(abD a.aC)=abD a.ai.ay
 case neg=>rw[dV (by omega),aA (λh=>wl h.1)];rfl
 rw[bw (by omega)];have e:aa .i64 (((abD a.ai.ay):Int) - ((abD a.ai.bi):Int))=((abD a.ai.ay-(abD a.ai.bi):Nat):Int):=by rw[wi];omega
 rw[e]
 by_cases hl:(abD a.bv)+abD a.ai.bi=abD a.ai.ay
 case neg=>rw[dV (by omega),aA (λh=>hl h.2.1)];rfl
 have key:=eo (body:=qF) (λi=>(((abD a.ai.ay):Int),(i:Int),a.ai.ay,a.ai.be,a.ai.bi,a.bv,a.aC)) (abD a.ai.ay) (λi=> ¬OL a i) (e:=abF) (λi hi=>by
  have e1:abL ((i:Int)<((abD a.ai.ay):Int))=abF:=az (by omega);unfold qF;simp (disch:=omega) only[aK,e1,ar,aj,aM];unfold OL;generalize a.aC[i]! =w at*;cases hb:a.ai.be[i]! with
  |false=>
   simp only[]
   by_cases hw:w= -1
   ·rw[bw hw]
    exact⟨λh=>absurd ⟨λh=>(by cases h),λ_=>hw⟩ h,λ_=>rfl⟩
   rw[dV hw]
   exact⟨λ_=>rfl,λh=>absurd ((EQ.1 h).2 trivial) hw⟩
  |true=>
   simp only[]
   by_cases b1:w<0
   ·rw[az b1]
    exact⟨λ_=>rfl,λh=>absurd ((EQ.1 h).1 trivial).1 (by omega)⟩
   by_cases b2:((abD a.bv):Int)<=w
   ·rw[aA b1,az b2]
    exact⟨λ_=>rfl,λh=>absurd ((EQ.1 h).1 trivial).2.1 (by omega)⟩
   rw[aA b1,aA b2];simp (disch:=omega) only[kT,aj]
   by_cases b3:(a.bv[w.toNat]!).2.2.2.1=i
   ·rw[bw b3]
    rw[Vj so];have lv:Af ⟨a.ai.ay,a.ai.be,a.ai.bi⟩ (a.bv[w.toNat]!).2.2.2↔(a.bv[w.toNat]!).2.2.2.2=a.ai.ay[i]!:=by
     unfold Af;dsimp only;rw[b3];constructor
     ·intro h;exact h.2.2.2.symm
     intro h;exact⟨by omega,by omega,by rw[IR];exact hb,by rw[IR];exact h.symm⟩
    simp only[lv]
    by_cases b4:(a.bv[w.toNat]!).2.2.2.2=a.ai.ay[i]!
    ·rw[az b4]
     exact⟨λh=>absurd ⟨λ_=>⟨by omega,by omega,b3,b4⟩,λh=>(by cases h)⟩ h,λ_=>rfl⟩
    rw[aA b4]
    exact⟨λ_=>rfl,λh=>absurd ((EQ.1 h).1 trivial).2.2.2 b4⟩
   rw[dV b3]
   exact⟨λ_=>rfl,λh=>absurd ((EQ.1 h).1 trivial).2.2.1 b3⟩) (by
  unfold qF;have:abL (((abD a.ai.ay):Int)<((abD a.ai.ay):Int))=abK:=aA (by omega);simp)
 grind[az,aA]
theorem Q3(H:List Ev)(u fr W:List Int)(us:List Bool)(k:Nat)(hk:k<abD H)(hl:(abD H)<=1000000)(x:Ev):
 ((∃j,j<k/\(H[j]!).2.2.1=x.2.2.1)->aq oZ ((k:Int),0,u,us,fr,H,W,x)=abE (.done 8))/\
 ((∀j,j<k-> ¬(H[j]!).2.2.1=x.2.2.1)->aq oZ ((k:Int),0,u,us,fr,H,W,x)=abE (.next (((k+1:Nat):Int),u,us,fr,H,W))):=by
 refine eo (λj=>((k:Int),(j:Int),u,us,fr,H,W,x)) k (λj=>(H[j]!).2.2.1=x.2.2.1) (λj hj=>?_) ?_
 ·have e1:=az (by omega)
  unfold oZ;simp (disch:=omega) only[ar,aM]
  grind
 unfold oZ
 have:abL ((k:Int)<(k:Int))=abK:=aA (by omega);simp (disch:=omega) only[this,ww,aM]
theorem Q4(H:List Ev)(u fr W:List Int)(us:List Bool)(hl:(abD H)<=1000000)(dX: ∀w,w<abD H->jb ((H[w]!).1,(H[w]!).2.1)):
 aq nj (1,u,us,fr,H,W)=abE (.done (if∀k,0<k->k<abD H-> ¬less H[k]! H[(k-1) / 2]! then 0 else 8)):=by
 by_cases h0:(abD H)=0
 ·rw[AC (λk _ hk=>by omega)]
  refine au ?_;unfold nj;have:abL ((1:Int)<((abD H):Int))=abK:=aA (by omega);simp[this,]
 have key:=eo (body:=nj) (λi=>(((i+1:Nat):Int),u,us,fr,H,W)) (abD H-1) (λi=>less H[i+1]! H[i / 2]!) (e:= .done 0) (λi hi=>by
  have e1:abL (((i+1:Nat):Int)<((abD H):Int))=abF:=az (by omega);unfold nj;simp (disch:=omega) only[aK,e1,Hm,ar,aj,aav (dX (i+1) (by omega)) (dX (i / 2) (by omega)),aM];constructor
  ·intro h;rw[az h];rfl
  ·intro h;rw[aA h];rfl) (by
  unfold nj;have:abL (((abD H-1+1:Nat):Int)<((abD H):Int))=abK:=aA (by omega);simp only[aK,this,ww])
 by_cases ho: ∀k,0<k->k<abD H-> ¬less H[k]! H[(k-1) / 2]!
 ·rw[AC ho]
  refine key.2 λi hi hc=>ho (i+1) (by omega) (by omega) ?_
  rwa [show(i+1-1) / 2=i / 2 by omega]
 grind
def aaw(H:List Ev)(k:Nat):Prop:=bo ((H[k]!).1,(H[k]!).2.1)/\0<=(H[k]!).2.2.1/\(H[k]!).2.2.1<=1000000/\(∀j,j<k-> ¬(H[j]!).2.2.1=(H[k]!).2.2.1)
theorem CZ(a:aS)(fit:CY a):vL a=abE (if gb a then 0 else 8):=by
 have hh:=fit.hp;unfold vL;rw[KL _ fit.fr]
 by_cases so:iE a.ai
 case neg=>rw[Do so,Do (λh=>so h.so)];rfl
 rw[AC so];simp only[W4 a so]
 by_cases pl:(abD a.aC)=abD a.ai.ay/\abD a.bv+abD a.ai.bi=abD a.ai.ay/\ ∀i,i<abD a.ai.ay->OL a i
 case neg=>rw[aA pl,Do (λh=>pl ⟨h.wl,h.hl,h.to.1⟩)];rfl
 obtain⟨wl,hl,hw⟩:=pl;simp;have key:=eo (body:=sR) (λk=>((k:Int),a.ai.ay,a.ai.be,a.ai.bi,a.bv,a.aC)) (abD a.bv) (λk=> ¬aaw a.bv k) (λk hk=>by
  have e1:abL ((k:Int)<((abD a.bv):Int))=abF:=az (by omega);have l1:=Q3 a.bv a.ai.ay a.ai.bi a.aC a.ai.be k hk hh a.bv[k]!;unfold sR;simp only[aK,e1,ar a.bv k hk,aj,pA (fit.aau k hk)]
  by_cases b1:bo ((a.bv[k]!).1,(a.bv[k]!).2.1)
  case neg=>rw[Do b1];exact⟨λ_=>rfl,λh=>absurd (EQ.1 h).1 b1⟩
  rw[AC b1]
  by_cases b2:(a.bv[k]!).2.2.1<0
  ·rw[az b2]
   exact⟨λ_=>rfl,λh=>absurd (EQ.1 h).2.1 (by omega)⟩
  by_cases b3:1000000<(a.bv[k]!).2.2.1
  ·rw[aA b2,az b3]
   exact⟨λ_=>rfl,λh=>absurd (EQ.1 h).2.2.1 (by omega)⟩
  rw[aA b2,aA b3]
  by_cases b4: ∃j,j<k/\(a.bv[j]!).2.2.1=(a.bv[k]!).2.2.1
  ·refine⟨λ_=>l1.1 b4,λh=>?_⟩
   obtain⟨j,j1,j2⟩:=b4;exact absurd j2 ((EQ.1 h).2.2.2 j j1)
  ·have b4':=λj h1 h2=>b4 ⟨j,h1,h2⟩
   exact⟨λh=>absurd ⟨b1,by omega,by omega,b4'⟩ h,λ_=>l1.2 b4'⟩) (by
  unfold sR;simp[];exact Q4 a.bv _ _ _ _ hh fit.aau)
 have same:gb a↔(∀k,k<abD a.bv->aaw a.bv k)/\ ∀k,0<k->k<abD a.bv-> ¬less a.bv[k]! a.bv[(k-1) / 2]!:=by
  constructor
  ·intro ok
   refine⟨λk hk=>?_,ok.ord⟩;have:=ok.to.2 k hk;exact⟨this.1,this.2.1,this.2.2.1,this.2.2.2.1⟩
  rintro⟨h1,h2⟩
  refine gb.of fit so wl hl hw λk hk=>?_
  obtain⟨c1,c2,c3,c4⟩:=h1 k hk;refine⟨c1,c2,c3,c4,λk0=>?_⟩;unfold TJ;rw[AC ⟨c1,(h1 ((k-1) / 2) (by omega)).1⟩,F9];exact h2 k k0 hk
 grind
theorem Ei{l:List Ev}{n:Nat}{e:Ev}(hn:n<=abD l):e∈l.take n↔ ∃w,w<n/\l[w]! =e:=by
 grind[cS]
theorem aeU{s:bF}(so:iE s){n:Nat}{H:List Ev}{W:List Int}(E:Ev->Prop)(hn:n<=abD H)(wl:(abD W)=abD s.ay)(hl:n+abD s.bi=abD s.ay)
 (ix: ∀w,w<n->0<=(H[w]!).ix/\(H[w]!).ix<abD W/\W[(H[w]!).n]! =(w:Int)) (mem: ∀e,(∃w,w<n/\H[w]! =e)↔E e) (ord: ∀k,0<k->k<n-> ¬less H[k]! H[(k-1) / 2]!)
 (ue: ∀i,i<abD s.ay->s.be[i]! =abF-> ∃e:Ev,E e/\e.ix=i/\e.2.2.2.2=s.ay[i]!) (un: ∀i,i<abD s.ay->s.be[i]! =abK->W[i]! = -1)
 (ev: ∀e,E e->Bq e) (C0: ∀e f:Ev,E e->E f->e.num=f.num->e.ix=f.ix):gb ⟨s,H.take n,W⟩:=by
 have len:(H.take n).length=n:=by rw[List.length_take];omega
 have cell: ∀w,w<n->(H.take n)[w]! =H[w]!:=λw hw=>xo hw
 refine⟨so,wl,by grind,?_,un,?_,?_,?_⟩
 ·intro i hi hu
  dsimp only at hi hu ⊢;rw[len];obtain⟨e,he,e1,e2⟩:=ue i hi hu;obtain⟨w,hw,rfl⟩:=(mem e).2 he;obtain⟨a1,a2,a3⟩:=ix w hw;have hn':(H[w]!).n=i:=by show((H[w]!).ix).toNat=i;omega
  rw[hn']at a3;rw[a3,IR,cell w hw];exact⟨by omega,by omega,e1,e2⟩
 ·intro w hw
  dsimp only at hw ⊢;rw[len]at hw;rw[cell w hw];exact ev _ ((mem _).1 ⟨w,hw,rfl⟩)
 ·intro v w hv hw
  rw[len]at hw;rw[cell v (by omega),cell w hw];intro hc;have:=C0 _ _ ((mem _).1 ⟨v,by omega,rfl⟩) ((mem _).1 ⟨w,hw,rfl⟩) hc;obtain⟨a1,a2,a3⟩:=ix v (by omega);obtain⟨b1,b2,b3⟩:=ix w hw;have hn':(H[v]!).n=(H[w]!).n:=by show((H[v]!).ix).toNat=((H[w]!).ix).toNat;rw[this]
  rw[hn']at a3;omega
 intro k k0 hk
 rw[len]at hk;rw[cell k hk,cell _ (by omega)];exact ord k k0 hk
theorem zx{s:bF}(so:iE s){n:Nat}{x:Ev}{M:Ev->Prop}{K:Nat->Prop}{H H1:List Ev}{W W1:List Int}(st:DM n x M K H W H1 W1)(hn:n<=abD H)(wl:(abD W)=abD s.ay)(hl:n+abD s.bi=abD s.ay)
 (ue: ∀i,i<abD s.ay->s.be[i]! =abF-> ∃e:Ev,(e=x\/M e)/\e.ix=i/\e.2.2.2.2=s.ay[i]!) (un: ∀i,i<abD s.ay->s.be[i]! =abK->K i/\W[i]! = -1)
 (ev: ∀e,(e=x\/M e)->Bq e) (C0: ∀e f:Ev,(e=x\/M e)->(f=x\/M f)->e.num=f.num->e.ix=f.ix):gb ⟨s,H1.take n,W1⟩:=by
 refine aeU so (λe=>e=x\/M e) (by rw[st.hl];exact hn) (by rw[st.wl];exact wl) hl (by rw[st.wl];exact st.ix) st.mem st.ord ue ?_ ev C0;intro i hi hu;rw[st.out i (un i hi hu).1]
 grind
theorem gb.bd{a:aS}(ok:gb a):(abD a.bv)<=200/\abD a.aC<=200:=by have:=ok.hl;have:=ok.wl;have:=ok.so.n2;omega
theorem gb.cells{a:aS}(ok:gb a):yW (abD a.bv) a.bv a.aC:=by have:=ok.bd;refine⟨PP _,by omega,λw hw=>?_⟩;obtain⟨b1,b2,b3,b4,b5⟩:=ok.back hw;exact⟨ok.ev w hw,b1,by rw[ok.wl];exact b2⟩
theorem gb.inj{a:aS}(ok:gb a){v w:Nat}(hv:v<abD a.bv)(hw:w<abD a.bv)(h:Ev.ix a.bv[v]! =Ev.ix a.bv[w]!):v=w:=by
 have h1:=(ok.back hv).2.2.2.2;have h2:=(ok.back hw).2.2.2.2
 grind
theorem gb.QX{a:aS}(ok:gb a){i k:Nat}(i0:0<i)(k0:0<k)(hk:k<abD a.bv)(hp:(k-1) / 2=i): ¬less a.bv[k]! a.bv[(i-1) / 2]!:=by have h1:=ok.ord k k0 hk;rw[hp]at h1;exact Ag (ok.ev _ (by omega)).den (ok.ev _ (by omega)).den (ok.ev _ hk).den (ok.ord i i0 (by omega)) h1
theorem gb.live{a:aS}(ok:gb a){h:Int×Int}(lv:Af a.ai h): ∃i,i<abD a.bv/\a.aC[h.1.toNat]! =(i:Int)/\(a.bv[i]!).2.2.2=h:=by
 obtain⟨l1,l2,l3,l4⟩:=lv;obtain⟨f1,f2,f3,f4⟩:=ok.fwd h.1.toNat (by omega) l3
 grind
theorem gb.handle{a:aS}(ok:gb a){i:Nat}(hi:i<abD a.bv):Af a.ai (a.bv[i]!).2.2.2/\a.aC[((a.bv[i]!).2.2.2.1).toNat]! =(i:Int):=by obtain⟨b1,b2,b3,b4,b5⟩:=ok.back hi;exact⟨⟨b1,b2,b3,b4⟩,b5⟩
theorem gb.I4{a:aS}(ok:gb a){i:Nat}(hi:i<abD a.ai.ay)(hu:a.ai.be[i]! =abF): ∃w,w<abD a.bv/\Ev.ix a.bv[w]! =i/\(a.bv[w]!).2.2.2.2=a.ai.ay[i]!:=by
 obtain⟨f1,f2,f3,f4⟩:=ok.fwd i hi hu
 grind
theorem gb.Q5{a:aS}(ok:gb a){i:Nat}(hu:a.ai.be[i]! =abK){w:Nat}(hw:w<abD a.bv):Ev.n a.bv[w]!≠i:=by
 have:=(ok.back hw).2.2.1
 grind
theorem gb.C0{a:aS}(ok:gb a){v w:Nat}(hv:v<abD a.bv)(hw:w<abD a.bv)(h:Ev.num a.bv[v]! =Ev.num a.bv[w]!):v=w:=by
 rcases aaQ v w with h1|h1|h1
 ·exact absurd h (ok.nd v w h1 hw)
 ·exact h1
 exact absurd h.symm (ok.nd w v h1 hv)
def Q6(x:Ev)(t:Int×Int):Ev:=(t.1,t.2,x.2.2)
noncomputable def pZ(a:aS)(i:Nat)(t:Int×Int):aS:=⟨a.ai,(iN (abD a.bv) (Q6 a.bv[i]! t) i a.bv a.aC).1,(iN (abD a.bv) (Q6 a.bv[i]! t) i a.bv a.aC).2⟩
theorem Q7{a:aS}(ok:gb a){i:Nat}(hi:i<abD a.bv){t:Int×Int}(ht:bo t)(h64:jb t):Bq (Q6 a.bv[i]! t):=by have:=ok.ev i hi;exact⟨ht,h64,this.2.2.1,this.2.2.2⟩
theorem TK{a:aS}(ok:gb a){i:Nat}(hi:i<abD a.bv)(t:Int×Int):F8 (abD a.bv) (Q6 a.bv[i]! t) (λe=> ∃w,w<abD a.bv/\w≠i/\a.bv[w]! =e) a.bv a.aC i:=by obtain⟨b1,b2,b3,b4,b5⟩:=ok.back hi;refine⟨hi,PP _,λw hw W3=>?_,b1,by rw[ok.wl];exact b2,λe=>abq⟩;obtain⟨c1,c2,c3,c4,c5⟩:=ok.back hw;exact⟨c1,by rw[ok.wl];exact c2,c5,λh=>W3 (ok.inj hw hi h)⟩
theorem W5{a:aS}(ok:gb a)(i:Nat):Ord (abD a.bv) a.bv i:=
 ⟨λw hw=>(ok.ev w hw).den,λk k0 hk _ _=>ok.ord k k0 hk,λi0 _k k0 hk hp=>ok.QX i0 k0 hk hp⟩
theorem vu{a:aS}(ok:gb a){i:Nat}(hi:i<abD a.bv){t:Int×Int}(ht:bo t):
 DM (abD a.bv) (Q6 a.bv[i]! t) (λe=> ∃w,w<abD a.bv/\w≠i/\a.bv[w]! =e) (λk=>k≠Ev.n (Q6 a.bv[i]! t)/\ ∀w,w<abD a.bv->w≠i->Ev.n a.bv[w]!≠k) a.bv a.aC (pZ a i t).bv (pZ a i t).aC:=
 CX ht.1 (TK ok hi t) (W5 ok i)
theorem Ho{a:aS}(ok:gb a){i:Nat}(hi:i<abD a.bv){t:Int×Int}(ht:bo t):(pZ a i t).bv.length=abD a.bv/\(pZ a i t).aC.length=(abD a.aC):=
 ⟨(vu ok hi ht).hl,(vu ok hi ht).wl⟩
theorem W6{a:aS}(ok:gb a){i:Nat}(hi:i<abD a.bv){t:Int×Int}(ht:bo t)(e:Ev):e∈(pZ a i t).bv↔(e=Q6 a.bv[i]! t\/(e∈a.bv/\e≠a.bv[i]!)):=by
 have st:=vu ok hi ht;have h1:e∈(pZ a i t).bv↔ ∃w,w<abD a.bv/\((pZ a i t).bv)[w]! =e:=by rw[aN,(Ho ok hi ht).1]
 rw[h1];refine(st.mem e).trans ?_;constructor
 ·rintro(h|⟨w,hw,W3,rfl⟩)
  ·exact .inl h
  exact .inr ⟨aE hw,λh=>W3 (ok.inj hw hi (by rw[h]))⟩
 rintro(h|⟨h,fo⟩)
 ·exact .inl h
 obtain⟨w,hw,rfl⟩:=aN.1 h
 grind
theorem aax{a:aS}(ok:gb a){i:Nat}(hi:i<abD a.bv){t:Int×Int}(ht:bo t)(h64:jb t):gb (pZ a i t):=by
 have st:=vu ok hi ht;have len:=(Ho ok hi ht).1;have key:=zx ok.so st (PP _) ok.wl ok.hl (λj hj hu=>by
  obtain⟨w,hw,e1,e2⟩:=ok.I4 hj hu
  by_cases e:w=i
  ·subst e;exact⟨Q6 a.bv[w]! t,.inl rfl,e1,e2⟩
  ·exact⟨a.bv[w]!,.inr ⟨w,hw,e,rfl⟩,e1,e2⟩) (λj hj hu=>⟨⟨(ok.Q5 hu hi).symm,λw hw _=>ok.Q5 hu hw⟩,ok.un j hj hu⟩) (by
  rintro e (rfl|⟨w,hw,_,rfl⟩)
  ·exact Q7 ok hi ht h64
  ·exact ok.ev w hw) (by
  rintro e f (rfl|⟨v,hv,hvi,rfl⟩) (rfl|⟨w,hw,W3,rfl⟩) he
  ·rfl
  ·exact absurd (ok.C0 hi hw he).symm W3
  ·exact absurd (ok.C0 hv hi he) hvi
  rw[ok.C0 hv hw he])
 show gb ⟨a.ai,(pZ a i t).bv,(pZ a i t).aC⟩
 grind
theorem Q8{a:aS}(ok:gb a)(fit:CY a){h:Int×Int}{i:Nat}(hi:i<abD a.bv)(hh:(a.bv[i]!).2.2.2=h):sC a h=abE ((i:Int),0):=by
 obtain⟨lv,wv⟩:=ok.handle hi;unfold sC;rw[lA a fit,AC ok];simp[Il ok.so,];have:=lv.2.1;have:=lv.1;have:=ok.wl
 grind[kT]
theorem IM{a:aS}(ok:gb a)(fit:CY a){h t:Int×Int}{i:Nat}(hi:i<abD a.bv)(hh:(a.bv[i]!).2.2.2=h)(ht:bo t)(h64:jb t):wX a h t=abE (pZ a i t,0):=by
 have bd:=ok.bd;obtain⟨b1,b2,b3,b4,b5⟩:=ok.back hi;unfold wX;rw[lA a fit,AC ok,cZ h64,AC ht];have pl:=Q8 ok fit hi hh;have se:=KJ (u:=a.ai.ay) (us:=a.ai.be) (fr:=a.ai.bi) (Q7 ok hi ht h64) (b1) ok.cells rfl hi (by rw[ok.wl];exact b2);have se':fX (a.ai.ay,a.ai.be,a.ai.bi,(i:Int),t.1,t.2,(a.bv[i]!).2.2.1,(a.bv[i]!).2.2.2.1,(a.bv[i]!).2.2.2.2,a.bv,a.aC)=abE _:=se;simp (disch:=omega) only[aj,pl,cM,ar a.bv i hi,se'];rfl
theorem M9(H:List Ev)(n:Int)(hl:(abD H)<=1000000):dC H n=abE (abL (∃w,w<abD H/\(H[w]!).2.2.1=n)):=by
 unfold dC fT;have key:=pz (body:=dB) (λi=>(H,n,((abD H):Int),(i:Int))) (abD H) (λi=>(H[i]!).2.2.1=n) (λi=>(i:Int)) (e:= -1) (λi hi=>by
  have e1:abL ((i:Int)<((abD H):Int))=abF:=az (by omega);unfold dB zo;simp (disch:=omega) only[e1,ar H i hi,aj,aM];constructor
  ·intro h;rw[lZ h];rfl
  ·intro h;rw[jA h];rfl) (by
  unfold dB;simp)
 rw[aK]
 by_cases hx: ∃w,w<abD H/\(H[w]!).2.2.1=n
 ·obtain⟨k,h1,h2,h3⟩:=least hx
  have:=key.1 k h1 h2 h3;rw[show((0:Nat):Int)=0 from rfl]at this;rw[this,az hx];simp (disch:=omega) only[aj,az]
 simp_all
noncomputable def qe(a:aS)(t:Int×Int)(n:Int):Ev:=(t.1,t.2,n,xd a.ai)
noncomputable def tg(a:aS)(t:Int×Int)(n:Int):aS:=
 ⟨pB a.ai,(iN (abD a.bv+1) (qe a t n) (abD a.bv) (a.bv++[qe a t n]) a.aC).1,(iN (abD a.bv+1) (qe a t n) (abD a.bv) (a.bv++[qe a t n]) a.aC).2⟩
section
variable {a : aS} (ok : gb a) (op : CW a.ai) {t : Int × Int} (ht : bo t) (h64 : jb t) {n : Int} (n0 : 0 <= n) (n1 : n <= 1000000)
include ok op
theorem I5:Ev.ix (qe a t n)=(mA a.ai:Int)/\mA a.ai<abD a.ai.ay/\a.ai.be[mA a.ai]! =abK/\abD a.ai.bi=(pB a.ai).bi.length+1:=by
 obtain⟨h1,h2,h3⟩:=DK ok.so op.1;refine⟨rfl,h1,?_,?_⟩
 ·have:=ok.so.uf _ h1
  grind
 show _=(a.ai.bi.take _).length+1
 grind
theorem W7:F8 (abD a.bv+1) (qe a t n) (λe=>e∈a.bv) (a.bv++[qe a t n]) a.aC (abD a.bv):=by
 obtain⟨h1,h2,h3,h4⟩:=I5 ok op;have cell: ∀w,w<abD a.bv->(a.bv++[qe a t n])[w]! =a.bv[w]!:=λw hw=>eE hw
 refine⟨by omega,by simp,λw hw W3=>?_,by rw[h1];omega,by rw[h1,ok.wl];omega,λe=>?_⟩
 ·have hw':w<(abD a.bv):=by omega
  rw[cell w hw'];obtain⟨c1,c2,c3,c4,c5⟩:=ok.back hw';refine⟨c1,by rw[ok.wl];exact c2,c5,λh=>?_⟩
  grind
 constructor
 ·grind
 intro h
 obtain⟨w,hw,rfl⟩:=aN.1 h
 grind
theorem aay(ht:bo t):Ord (abD a.bv+1) (a.bv++[qe a t n]) (abD a.bv):=by
 have:=op
 have cell: ∀w,w<abD a.bv->(a.bv++[qe a t n])[w]! =a.bv[w]!:=λw hw=>eE hw
 refine⟨λw hw=>?_,λk k0 hk k1 k2=>?_,λi0 k k0 hk hp=>by omega⟩
 ·by_cases h:w<abD a.bv
  ·rw[cell w h];exact(ok.ev w h).den
  have:w=(abD a.bv):=by omega
  subst this;rw[tc (PP _),abB];exact ht.1
 rw[cell k (by omega),cell _ (by omega)]
 exact ok.ord k k0 (by omega)
theorem Bt(ht:bo t):DM (abD a.bv+1) (qe a t n) (λe=>e∈a.bv) (λk=>k≠Ev.n (qe a t n)/\ ∀w,w<abD a.bv+1->w≠abD a.bv->Ev.n (a.bv++[qe a t n])[w]!≠k) (a.bv++[qe a t n]) a.aC (tg a t n).bv (tg a t n).aC:=
 CX ht.1 (W7 ok op) (aay ok op ht)
theorem F'(ht:bo t):(tg a t n).bv.length=abD a.bv+1:=by have:=(Bt (n:=n) ok op ht).hl;rw[this];simp
theorem Q9(ht:bo t)(e:Ev):e∈(tg a t n).bv↔(e=qe a t n\/e∈a.bv):=by have st:=Bt (n:=n) ok op ht;rw[aN,F' ok op ht];exact st.mem e
theorem TL(ht:bo t)(h64:jb t)(n0:0<=n)(n1:n<=1000000):Bq (qe a t n):=by have:=ok;have:=op;exact⟨ht,h64,n0,n1⟩
theorem Vk(ht:bo t)(h64:jb t)(n0:0<=n)(n1:n<=1000000)(nn: ∀e∈a.bv,Ev.num e≠n):gb (tg a t n):=by
 have st:=Bt (n:=n) ok op ht;have len:=F' (n:=n) ok op ht;obtain⟨h1,h2,h3,h4⟩:=I5 ok op;have hu:=ok.so.ul;have ul:(pB a.ai).ay.length=(abD a.ai.ay):=NE;have key:=zx (aat ok.so op) st (by simp) (by rw[ul];exact ok.wl) (by rw[ul];have:=ok.hl;omega) (λj hj HV=>by
  rw[ul]at hj;change (a.ai.be.set _ abF)[j]! =abF at HV;rw[cw]at HV;show∃e:Ev,_/\_/\_=(a.ai.ay.set _ _)[j]!;rw[cw]
  by_cases e:j=mA a.ai
  ·rw[AC ⟨e,h2⟩]
   exact⟨qe a t n,.inl rfl,by rw[h1,e],rfl⟩
  ·rw[Do (λk=>e k.1)]
   rw[Do (λk=>e k.1)]at HV;obtain⟨w,hw,e1,e2⟩:=ok.I4 hj HV;exact⟨a.bv[w]!,.inr (aE hw),e1,e2⟩) (λj hj HV=>by
  rw[ul]at hj;change (a.ai.be.set _ abF)[j]! =abK at HV;rw[cw]at HV
  by_cases e:j=mA a.ai
  ·rw[AC ⟨e,by omega⟩]at HV;cases HV
  ·rw[Do (λk=>e k.1)]at HV
   refine⟨⟨?_,λw hw W3=>?_⟩,ok.un j hj HV⟩
   ·show j≠(Ev.ix _).toNat
    omega
   rw[eE (by omega)]
   exact ok.Q5 HV (by omega)) (by
  rintro e (rfl|h)
  ·exact TL ok op ht h64 n0 n1
  ·obtain⟨w,hw,rfl⟩:=aN.1 h
   exact ok.ev w hw) (by
  rintro e f (rfl|he) (rfl|hf) hn
  ·rfl
  ·exact absurd hn.symm (nn f hf)
  ·exact absurd hn (nn e he)
  obtain⟨v,hv,rfl⟩:=aN.1 he
  obtain⟨w,hw,rfl⟩:=aN.1 hf;rw[ok.C0 hv hw hn])
 show gb ⟨pB a.ai,(tg a t n).bv,(tg a t n).aC⟩
 grind
theorem TM(ht:bo t)(h64:jb t)(n0:0<=n)(n1:n<=1000000):yW (abD a.bv+1) (a.bv++[qe a t n]) a.aC:=by
 have bd:=ok.bd;obtain⟨h1,h2,h3,h4⟩:=I5 (t:=t) (n:=n) ok op;refine⟨by simp,by simp;omega,λw hw=>?_⟩
 by_cases h:w<abD a.bv
 ·rw[eE h];exact ok.cells.ev w h
 have:w=(abD a.bv):=by omega
 subst this;rw[tc (PP _),abB];exact⟨TL ok op ht h64 n0 n1,by grind,by show Ev.ix (qe a t n)<_;rw[ok.wl];omega⟩
theorem Ah(fit:CY a)(ht:bo t)(h64:jb t)(n0:0<=n)(n1:n<=1000000)(nn: ∀e∈a.bv,Ev.num e≠n):nG a t n=abE (tg a t n,xd a.ai,0):=by
 have bd:=ok.bd;obtain⟨h1,h2,h3,h4⟩:=I5 (t:=t) (n:=n) ok op;have hn: ¬ ∃w,w<abD a.bv/\(a.bv[w]!).2.2.1=n:=by
  grind
 unfold nG;rw[lA a fit,AC ok,cZ h64,AC ht,M9 _ _ (by omega),aA hn,F7 ok.so,AC op];have se:=KJ (u:=(pB a.ai).ay) (us:=(pB a.ai).be) (fr:=(pB a.ai).bi) (TL ok op ht h64 n0 n1) (by omega) (TM ok op ht h64 n0 n1) (by simp) (show(abD a.bv)<abD a.bv+1 by omega) (by rw[ok.wl];omega);have e1:aa .i64 (((a.bv++[qe a t n]).length:Int)-1)=((abD a.bv):Int):=by rw[wi,abw];simp;omega
 have ap:ba a.bv [(t.1,t.2,n,xd a.ai)]=abE (a.bv++[qe a t n]):=bG (by simp;omega);have se':fX ((pB a.ai).ay,(pB a.ai).be,(pB a.ai).bi,((abD a.bv):Int),t.1,t.2,n,(xd a.ai).1,(xd a.ai).2,a.bv++[qe a t n],a.aC)=abE _:=se;simp (disch:=omega) only[aj,aA,cM,ap,aK,e1,se'];rfl
end
theorem Ai{a:aS}(ok:gb a)(op: ¬CW a.ai)(fit:CY a){t:Int×Int}(ht:bo t)(h64:jb t){n:Int}(n0:0<=n)(n1:n<=1000000)(nn: ∀e∈a.bv,Ev.num e≠n):nG a t n=abE (⟨⟨[],[],[]⟩,[],[]⟩,(0,0),18):=by
 have bd:=ok.bd;have hn: ¬ ∃w,w<abD a.bv/\(a.bv[w]!).2.2.1=n:=by rintro⟨w,hw,e⟩;exact nn _ (aE hw) e
 unfold nG;rw[lA a fit,AC ok,cZ h64,AC ht,M9 _ _ (by omega),aA hn,F7 ok.so,Do op]
 grind
noncomputable def fu(a:aS)(i:Nat):aS:=
 if i<abD a.bv-1 then⟨qj a.ai (a.bv[i]!).2.2.2,(iN (abD a.bv-1) a.bv[abD a.bv-1]! i a.bv (a.aC.set (Ev.n a.bv[i]!) (-1))).1.take (abD a.bv-1),(iN (abD a.bv-1) a.bv[abD a.bv-1]! i a.bv (a.aC.set (Ev.n a.bv[i]!) (-1))).2⟩
 else⟨qj a.ai (a.bv[i]!).2.2.2,a.bv.take (abD a.bv-1),a.aC.set (Ev.n a.bv[i]!) (-1)⟩
section
variable {a : aS} (ok : gb a) {i : Nat} (hi : i < (abD a.bv))
include ok hi
theorem Hq{w:Nat}(hw:w<abD a.bv)(fo:w≠i):Ev.n a.bv[w]!≠Ev.n a.bv[i]!:=by have h1:=(ok.back hw).1;have h2:=(ok.back hi).1;exact asr h1 h2 λh=>fo (ok.inj hw hi h)
theorem W8:yW (abD a.bv-1) a.bv (a.aC.set (Ev.n a.bv[i]!) (-1)):=by have c:=ok.cells;refine⟨by omega,c.hb,λw hw=>?_⟩;rw[NE];exact c.ev w (by omega)
theorem aaz(iL:i<abD a.bv-1):F8 (abD a.bv-1) a.bv[abD a.bv-1]! (λe=> ∃w,w<abD a.bv-1/\w≠i/\a.bv[w]! =e) a.bv (a.aC.set (Ev.n a.bv[i]!) (-1)) i:=by
 obtain⟨b1,b2,b3,b4,b5⟩:=ok.back (show(abD a.bv)-1<(abD a.bv) by omega);refine⟨iL,by omega,λw hw W3=>?_,b1,by rw[NE,ok.wl];exact b2,λe=>abq⟩;obtain⟨c1,c2,c3,c4,c5⟩:=ok.back (show w<(abD a.bv) by omega);refine⟨c1,by rw[NE,ok.wl];exact c2,?_,λh=>?_⟩
 ·rw[cw,Do (λh=>Hq ok hi (by omega) W3 h.1)]
  exact c5
 grind
theorem adm:Ord (abD a.bv-1) a.bv i:=
 ⟨λw hw=>(ok.ev w (by omega)).den,λk k0 hk _ _=>ok.ord k k0 (by omega),λi0 k k0 hk hp=>ok.QX i0 k0 (by omega) hp⟩
theorem Io(iL:i<abD a.bv-1):
 DM (abD a.bv-1) a.bv[abD a.bv-1]! (λe=> ∃w,w<abD a.bv-1/\w≠i/\a.bv[w]! =e) (λk=>k≠Ev.n a.bv[abD a.bv-1]!/\ ∀w,w<abD a.bv-1->w≠i->Ev.n a.bv[w]!≠k) a.bv (a.aC.set (Ev.n a.bv[i]!) (-1))
  (iN (abD a.bv-1) a.bv[abD a.bv-1]! i a.bv (a.aC.set (Ev.n a.bv[i]!) (-1))).1 (iN (abD a.bv-1) a.bv[abD a.bv-1]! i a.bv (a.aC.set (Ev.n a.bv[i]!) (-1))).2:=
 CX (ok.ev (abD a.bv-1) (by omega)).den (aaz ok hi iL) (adm ok hi)
theorem M':iE (qj a.ai (a.bv[i]!).2.2.2):=aas ok.so (ok.handle hi).1
theorem C1{j:Nat}(hj:j<abD a.ai.ay):(qj a.ai (a.bv[i]!).2.2.2).be[j]! =if j=Ev.n a.bv[i]! then abK else a.ai.be[j]!:=by
 show(a.ai.be.set _ abK)[j]! =_;have:=ok.so.ul
 grind
theorem Hr:gb (fu a i):=by
 have hb:=ok.back hi;have hl:(abD a.bv)-1+(qj a.ai (a.bv[i]!).2.2.2).bi.length=(abD a.ai.ay):=by
  show(abD a.bv)-1+(a.ai.bi++[_]).length=_;rw[abw];have:=ok.hl
  grind
 have un: ∀j,j<abD a.ai.ay->(qj a.ai (a.bv[i]!).2.2.2).be[j]! =abK->(a.aC.set (Ev.n a.bv[i]!) (-1))[j]! = -1:=by
  intro j hj hu;rw[C1 ok hi hj]at hu;rw[cw]
  by_cases e:j=Ev.n a.bv[i]!
  ·rw[AC ⟨e.symm▸rfl,by rw[ok.wl];omega⟩]
  rw[Do e]at hu
  rw[Do (λk=>e k.1)];exact ok.un j hj hu
 unfold fu
 by_cases iL:i<abD a.bv-1
 ·rw[AC iL]
  have st:=Io ok hi iL;refine zx (M' ok hi) st (by omega) (by rw[NE];exact ok.wl) hl (λj hj hu=>?_) (λj hj hu=>⟨⟨?_,λw hw W3=>?_⟩,un j hj hu⟩) ?_ ?_
  ·change j<(abD a.ai.ay)at hj
   rw[C1 ok hi hj]at hu
   by_cases e:j=Ev.n a.bv[i]!
   ·grind
   rw[Do e]at hu
   obtain⟨w,hw,e1,e2⟩:=ok.I4 hj hu;refine⟨a.bv[w]!,?_,e1,e2⟩
   grind
  ·change j<(abD a.ai.ay)at hj
   rw[C1 ok hi hj]at hu
   by_cases e:j=Ev.n a.bv[i]!
   ·grind[Hq]
   rw[Do e]at hu
   exact(ok.Q5 hu (by omega)).symm
  ·change j<(abD a.ai.ay)at hj
   rw[C1 ok hi hj]at hu
   by_cases e:j=Ev.n a.bv[i]!
   ·grind[Hq]
   rw[Do e]at hu
   exact ok.Q5 hu (by omega)
  ·rintro e (rfl|⟨w,hw,_,rfl⟩)
   ·exact ok.ev _ (by omega)
   exact ok.ev w (by omega)
  rintro e f (rfl|⟨v,hv,hvi,rfl⟩) (rfl|⟨w,hw,W3,rfl⟩) he
  ·rfl
  ·rw[ok.C0 (by omega) (by omega) he]
  ·rw[ok.C0 (by omega) (by omega) he]
  rw[ok.C0 (by omega) (by omega) he]
 rw[Do iL]
 have hie:i=abD a.bv-1:=by omega
 refine aeU (M' ok hi) (λe=> ∃w,w<abD a.bv-1/\a.bv[w]! =e) (by omega) (by rw[NE];exact ok.wl) hl (λw hw=>?_) (λe=>abq) (λk k0 hk=>ok.ord k k0 (by omega)) (λj hj hu=>?_) un ?_ ?_
 ·obtain⟨c1,c2,c3,c4,c5⟩:=ok.back (show w<(abD a.bv) by omega)
  refine⟨c1,by rw[NE,ok.wl];exact c2,?_⟩
  grind
 ·change j<(abD a.ai.ay)at hj
  rw[C1 ok hi hj]at hu
  by_cases e:j=Ev.n a.bv[i]!
  ·grind
  rw[Do e]at hu
  obtain⟨w,hw,e1,e2⟩:=ok.I4 hj hu;refine⟨a.bv[w]!,⟨w,?_,rfl⟩,e1,e2⟩
  grind
 ·rintro e ⟨w,hw,rfl⟩
  exact ok.ev w (by omega)
 rintro e f ⟨v,hv,rfl⟩ ⟨w,hw,rfl⟩ he
 rw[ok.C0 (by omega) (by omega) he]
theorem KM(e:Ev):e∈(fu a i).bv↔(e∈a.bv/\e≠a.bv[i]!):=by
 have other: ∀w,w<abD a.bv->(a.bv[w]!≠a.bv[i]!↔w≠i):=λw hw=>⟨λh k=>h (by rw[k]),λh k=>h (ok.inj hw hi (by rw[k]))⟩
 unfold fu
 by_cases iL:i<abD a.bv-1
 ·rw[AC iL]
  have st:=Io ok hi iL;show e∈(_:List Ev).take _↔_;rw[Ei (by rw[st.hl];omega)];refine(st.mem e).trans ?_;constructor
  ·grind
  rintro⟨h,fo⟩
  obtain⟨w,hw,rfl⟩:=aN.1 h
  grind
 rw[Do iL]
 rw[Ei (by omega)];constructor
 ·grind
 rintro⟨h,fo⟩
 obtain⟨w,hw,rfl⟩:=aN.1 h
 grind
theorem Hs:u5 a (i:Int)=abE (fu a i,a.bv[i]!,0):=by
 have bd:=ok.bd;obtain⟨b1,b2,b3,b4,b5⟩:=ok.back hi;obtain⟨c1,c2,c3,c4,c5⟩:=ok.back (show(abD a.bv)-1<(abD a.bv) by omega);unfold u5;have e1:aa .i64 _=((abD a.bv-1:Nat):Int):=vt (by omega) (by omega);have g1:=kT b1 (by rw[ok.wl];exact b2);have ws:cQ a.aC _ _=a.aC.set (Ev.n a.bv[i]!) (-1):=rfl;simp (disch:=omega) only[aj,OI ok.so (ok.handle hi).1,cM,aK,e1,ar,rG,g1,ws,IR];unfold fu
 by_cases iL:i<abD a.bv-1
 ·rw[az (by omega),AC iL]
  have se:=TI (cap:=abD a.bv) (u:=(qj a.ai (a.bv[i]!).2.2.2).ay) (us:=(qj a.ai (a.bv[i]!).2.2.2).be) (fr:=(qj a.ai (a.bv[i]!).2.2.2).bi) (ok.ev (abD a.bv-1) (by omega)) (c1) (W8 ok hi) iL (by rw[NE,ok.wl];exact c2);rw[se];rfl
 grind
theorem uG(fit:CY a){h:Int×Int}(hh:(a.bv[i]!).2.2.2=h):om a h=abE (fu a i,a.bv[i]!,0):=by unfold om;rw[Q8 ok fit hi hh];simp_all[Hs]
end
abbrev wk:=Int×Int×Int
theorem gb.fit{a:aS}(ok:gb a):CY a:=by have bd:=ok.bd;have:=ok.so.fl;have:=ok.so.n2;exact⟨by omega,by omega,by omega,λw hw=>(ok.ev w hw).2.1⟩
theorem tj(l:List wk)(id:Int)(hl:(abD l)<=1000000)(hs: ∀i j,i<j->j<abD l->(l[i]!).1<(l[j]!).1):
 (∀k,k<abD l->(l[k]!).1=id->aY l id ()=abE ((k:Int),abF))/\
 ((∀k,k<abD l->(l[k]!).1≠id)-> ∃m,m<=abD l/\(∀i,i<m->(l[i]!).1<id)/\(∀i,m<=i->i<abD l->id<(l[i]!).1)/\aY l id ()=abE ((m:Int),abK)):=by
 obtain⟨m,m1,m2,m3⟩:=QW (λi=>(l[i]!).1) id (abD l) hs;have run:aY l id ()=aq aZ (l,id,((abD l):Int),(m:Int),(m:Int)):=by
  refine Hk (λlo hi=>(l,id,((abD l):Int),(lo:Int),(hi:Int))) (abD l) m (λi=>(l[i]!).1<id) (λlo hi h1 h2=>?_) m2 (λi h1 h2 h3=>by have:=m3 i h1 h2;omega) (abD l) 0 (abD l) (by omega) (by omega) m1 (PP _);have e1:abL ((lo:Int)<(hi:Int))=abF:=az (by omega);have hh:=adh (a:=lo) (b:=hi) (by omega) (by omega);unfold aZ vG;simp (disch:=omega) only[e1,hh,ar,nA,aj,aM];constructor
  ·intro h
   have:abL (mG (l[(lo+hi) / 2]!).1 id<0)=abF:=by rcases dU _ id with⟨a,e⟩|⟨a,e⟩|⟨a,e⟩<;>rw[e]<;>first|rfl|omega
   rw[this];rfl
  intro h
  have:abL (mG (l[(lo+hi) / 2]!).1 id<0)=abK:=by rcases dU _ id with⟨a,e⟩|⟨a,e⟩|⟨a,e⟩<;>rw[e]<;>first|rfl|omega
  rw[this];rfl
 have fin:aq aZ (l,id,((abD l):Int),(m:Int),(m:Int))=if m<abD l/\(l[m]!).1=id then abE ((m:Int),abF)else abE ((m:Int),abK):=by
  have e1:abL ((m:Int)<(m:Int))=abK:=aA (by omega)
  by_cases hm:m<abD l
  ·have e2:abL ((m:Int)<((abD l):Int))=abF:=az (by omega)
   have body:aZ (l,id,((abD l):Int),(m:Int),(m:Int))=abE (.done ((m:Int),mG (l[m]!).1 id==0)):=by unfold aZ vG;simp only[e1,e2,v6,ww,ar l m hm,nA,aj]
   rw[au body];rcases dU _ id with⟨a,e⟩|⟨a,e⟩|⟨a,e⟩
   ·rw[e,Do (λh=>by omega)];rfl
   ·rw[e,AC ⟨hm,a⟩];rfl
   rw[e,Do (λh=>by omega)];rfl
  have e2:abL ((m:Int)<((abD l):Int))=abK:=aA (by omega)
  have body:aZ (l,id,((abD l):Int),(m:Int),(m:Int))=abE (.done ((m:Int),abK)):=by unfold aZ;simp only[e1,e2,ww]
  rw[au body,Do (λh=>hm h.1)]
 rw[run,fin];constructor
 ·intro k hk he
  have hkm:k=m:=by
   rcases aaQ k m with h|h|h
   ·have:=m2 k h;omega
   ·exact h
   have h1:=m3 m (PP _) (by omega)
   have h2:=hs m k h hk;omega
  subst hkm;rw[AC ⟨hk,he⟩]
 grind
theorem ahb:dS=aY:=rfl
theorem aaA:dJ=aY:=rfl
theorem DP:dL=aY:=rfl
theorem Ga{α:Type}(l:List α)(k:Nat):l.eraseIdx k=l.take k++l.drop (k+1):=List.eraseIdx_eq_take_drop_succ l k
theorem yX(l:List wk)(k:Nat)(hk:k<abD l): ∃L:List wk,dF ((k:Int),((k+1:Nat):Int),l)=abE (abD l-1,abD l,L)/\L.take (abD l-1)=l.eraseIdx k:=by
 unfold dF;have e1:abL ((0:Int)<=(k:Int))=abF:=az (by omega);have e2:abL ((k:Int)<=((k+1:Nat):Int))=abF:=az (by omega);have e3:abL (((k+1:Nat):Int)<=((abD l):Int))=abF:=az (by omega);have e4:abL (((abD l):Int)<=((abD l):Int))=abF:=az (by omega);have e5:((k:Int)==((k+1:Nat):Int))=abK:=jA (by omega);have e6:abL ((0:Int)<=((k+1:Nat):Int))=abF:=az (by omega);have e7:abL ((k:Int)<=((abD l):Int))=abF:=az (by omega);have dr:(l.drop (k+1)).take (abD l- (k+1))=l.drop (k+1):=List.take_of_length_le (by simp);have dl:(l.drop (k+1)).length=abD l- (k+1):=List.length_drop;simp only[aK,e1,e2,e3,e4,e5,e6,e7,rG l k (by omega),aj,IR,Nat.zero_add,dr,dl,abu,Bool.and_true]
 by_cases h:k+1=abD l
 ·have em:(l.drop (k+1)).isEmpty=abF:=by rw[aby,WF];omega
  have n1:abC (abD l-k) 0=abK:=by
   cases hb:abC (abD l-k) 0 with
   |false=>rfl
   |true=>have:=abt hb;omega
  have n2:Nat.ble (k+(abD l-k)) (abD l)=abF:=UV (by omega);have ll:(gQ l k (abA (abD l-k) ((0:Int),(0:Int),(0:Int)))).length=(abD l):=by unfold gQ;simp;omega
  simp only[em,v6,n1,ww,n2,ll,beq_self_eq_true];refine⟨_,by rw[show k=abD l-1 by omega],?_⟩;rw[Ga,show(abD l)-1=k by omega];unfold gQ
  grind
 have em:(l.drop (k+1)).isEmpty=abK:=by
  cases hb:(l.drop (k+1)).isEmpty with
  |false=>rfl
  |true=>rw[aby,WF]at hb;omega
 have n1:Nat.ble (k+(abD l- (k+1))) (abD l)=abF:=UV (by omega);have n2:abL ((0:Int)<=((k+(abD l- (k+1)):Nat):Int))=abF:=az (by omega);have n3:abL (((k+(abD l- (k+1)):Nat):Int)<=((abD l):Int))=abF:=az (by omega);have n4:abC (abD l- (k+(abD l- (k+1)))) 0=abK:=by
  cases hb:abC (abD l- (k+(abD l- (k+1)))) 0 with
  |false=>rfl
  |true=>have:=abt hb;omega
 have l1:(gQ l k (l.drop (k+1))).length=(abD l):=by unfold gQ;simp;omega
 have n5:Nat.ble (k+(abD l- (k+1))+(abD l- (k+(abD l- (k+1))))) (abD l)=abF:=UV (by omega);have l2:(gQ (gQ l k (l.drop (k+1))) (k+(abD l- (k+1))) (abA (abD l- (k+(abD l- (k+1)))) ((0:Int),(0:Int),(0:Int)))).length=(abD l):=by unfold gQ;simp;omega
 simp only[em,ww,n1,v6,n2,n3,Bool.and_self,n4,l1,n5,l2,beq_self_eq_true];refine⟨_,by rw[show k+(abD l- (k+1))=abD l-1 by omega],?_⟩;rw[Ga];have:k+(abD l- (k+1))=abD l-1:=by omega
 unfold gQ
 grind
theorem KN:nN=dF:=rfl
theorem KO{α:Type}[Inhabited α]{l:List α}{k i:Nat}:(l.eraseIdx k)[i]! =if i<k then l[i]! else l[i+1]!:=by
 grind
def jB(x:Int×Int):Prop:=0<=x.1/\x.1<=65535/\0<=x.2/\x.2<=65535/\x.1≠x.2
theorem Ej(x:Int×Int):xM x=abE (abL (jB x)):=by
 obtain⟨a,b⟩:=x;unfold xM
 by_cases h1:0<=a
 ·by_cases h3:0<=b
  ·have e1:abL (0<=if b<a then b else a)=abF:=az (by split<;>omega)
   rw[e1]
   by_cases h2:a<=65535
   ·by_cases h4:b<=65535
    ·have e2:abL ((if b>a then b else a)<=65535)=abF:=az (by split<;>omega)
     rw[e2]
     by_cases h5:a=b
     ·rw[bw h5,aA (λh=>h.2.2.2.2 h5)];rfl
     rw[dV h5,az ⟨h1,h2,h3,h4,h5⟩];rfl
    have e2:abL ((if b>a then b else a)<=65535)=abK:=aA (by split<;>omega)
    rw[e2,aA (λh=>h4 h.2.2.2.1)];rfl
   have e2:abL ((if b>a then b else a)<=65535)=abK:=aA (by split<;>omega)
   rw[e2,aA (λh=>h2 h.2.1)];rfl
  have e1:abL (0<=if b<a then b else a)=abK:=aA (by split<;>omega)
  rw[e1,aA (p:=jB _) (λh=>h3 h.2.2.1)];rfl
 have e1:abL (0<=if b<a then b else a)=abK:=aA (by split<;>omega)
 rw[e1,aA (p:=jB _) (λh=>h1 h.1)];rfl
theorem L7(x:Int×Int):Bg x=abE (abL (jB x)):=by
 obtain⟨a,b⟩:=x;unfold Bg
 by_cases h1:0<=a
 ·by_cases h2:a<=65535
  ·by_cases h3:0<=b
   ·by_cases h4:b<=65535
    ·by_cases h5:a=b
     ·rw[bw h5,az h1,az h2,az h3,az h4,aA (λh=>h.2.2.2.2 h5)];rfl
     rw[dV h5,az h1,az h2,az h3,az h4,az ⟨h1,h2,h3,h4,h5⟩];rfl
    rw[az h1,az h2,az h3,aA h4,aA (λh=>h4 h.2.2.2.1)];rfl
   rw[az h1,az h2,aA h3,aA (p:=jB _) (λh=>h3 h.2.2.1)];rfl
  rw[az h1,aA h2,aA (p:=jB _) (λh=>h2 h.2.1)];rfl
 rw[aA h1,aA (p:=jB _) (λh=>h1 h.1)];rfl
structure hM(c:cm):Prop where
 len:(abD c.ce)<=200
 n0:0<=c.aW
 n1:c.aW<=1000000
 cv: ∀i,i<abD c.ce->jB (c.ce[i]!).2
 nr: ∀i,i<abD c.ce->0<=(c.ce[i]!).1/\(c.ce[i]!).1<c.aW
 up: ∀i j,i<j->j<abD c.ce->(c.ce[i]!).1<(c.ce[j]!).1
 nd: ∀i j,i<j->j<abD c.ce->(c.ce[i]!).2≠(c.ce[j]!).2
def Ek(l:List wk)(i:Nat):Int:=if i=0 then -1 else(l[i-1]!).1
def TN(c:cm)(i:Nat):Prop:=jB (c.ce[i]!).2/\(∀j,j<i->(c.ce[j]!).2≠(c.ce[i]!).2)/\Ek c.ce i<(c.ce[i]!).1/\(c.ce[i]!).1<c.aW
theorem hM.iff{c:cm}(h1:(abD c.ce)<=200)(h2:0<=c.aW)(h3:c.aW<=1000000):hM c↔ ∀i,i<abD c.ce->TN c i:=by
 constructor
 ·intro ok i hi
  refine⟨ok.cv i hi,λj hj=>ok.nd j i hj hi,?_,(ok.nr i hi).2⟩;unfold Ek;split
  ·have:=(ok.nr i hi).1;omega
  exact ok.up _ i (by omega) hi
 intro h
 have low: ∀i,i<abD c.ce->0<=(c.ce[i]!).1:=by
  intro i
  induction i with
  |zero=>
   intro hi;have:=(h 0 hi).2.2.1
   assumption
  |succ i ih=>
   intro hi;have h1:=(h _ hi).2.2.1;unfold Ek at h1
   grind
 have up: ∀i j,i<j->j<abD c.ce->(c.ce[i]!).1<(c.ce[j]!).1:=by
  intro i j
  induction j with
  |zero=>intro h;omega
  |succ j ih=>
   intro p8 hj;have h1:=(h _ hj).2.2.1;unfold Ek at h1
   grind
 exact⟨h1,h2,h3,λi hi=>(h i hi).1,λi hi=>⟨low i hi,(h i hi).2.2.2⟩,up,λi j p8 hj=>(h j hj).2.1 i p8⟩
theorem KP(l:List wk)(k:Nat)(a b:Int):sg [a,b] ((l.take k).map λx=>[x.2.1,x.2.2])=abF:=by unfold sg;rw[List.all_eq_true];intro x hx;obtain⟨y,hy,rfl⟩:=aai.1 hx;rfl
theorem KQ(l:List wk)(k:Nat)(x:Int×Int):IE ((l.take k).map λy=>[y.2.1,y.2.2]) [x.1,x.2]=abL (∃j,j<k/\j<abD l/\(l[j]!).2=x):=by
 unfold IE;rw[abr,List.any_eq_true,decide_eq_true_iff];constructor
 ·rintro⟨y,hy,he⟩
  obtain⟨z,hz,rfl⟩:=aai.1 hy;obtain⟨j,h1,h2,rfl⟩:=cS.1 hz
  grind
 rintro⟨j,h1,h2,h3⟩
 refine⟨[(l[j]!).2.1,(l[j]!).2.2],aai.2 ⟨l[j]!,cS.2 ⟨j,h1,h2,rfl⟩,rfl⟩,?_⟩;rw[h3];simp
theorem zy(c:cm):uv c=abE (if hM c then 0 else 8):=by
 unfold uv;simp[]
 by_cases h1:200<abD c.ce
 ·rw[az (by omega),Do (λh=>by have:=h.len;omega)];rfl
 rw[aA (by omega)]
 by_cases h2:c.aW<0
 ·rw[az h2,Do (λh=>by have:=h.n0;omega)];rfl
 rw[aA h2]
 by_cases h3:1000000<c.aW
 ·rw[az h3,Do (λh=>by have:=h.n1;omega)];rfl
 rw[aA h3];simp;have key:=eo (body:=uZ) (λi=>(Ek c.ce i,c.ce,((abD c.ce):Int),(i:Int),c.aW,c.ce,(c.ce.take i).map λx=>[x.2.1,x.2.2])) (abD c.ce) (λi=> ¬TN c i) (e:=0) (λi hi=>by
  have e1:abL ((i:Int)<((abD c.ce):Int))=abF:=az (by omega);have has:Qi ((c.ce.take i).map λx=>[x.2.1,x.2.2]) [(c.ce[i]!).2.1,(c.ce[i]!).2.2]=abE (abL (∃j,j<i/\j<abD c.ce/\(c.ce[j]!).2=(c.ce[i]!).2)):=by unfold Qi;rw[KP,KQ];rfl
  have nx:(c.ce.take (i+1)).map (λx=>[x.2.1,x.2.2])=((c.ce.take i).map λx=>[x.2.1,x.2.2])++[[(c.ce[i]!).2.1,(c.ce[i]!).2.2]]:=by rw[da hi,List.map_append];rfl
  have ln:Ek c.ce (i+1)=(c.ce[i]!).1:=by unfold Ek;rw[Do (by omega),show i+1-1=i by omega]
  unfold uZ;simp (disch:=omega) only[e1,ar c.ce i hi,aj,Ej,has,aM];unfold TN
  by_cases b1:jB (c.ce[i]!).2
  case neg=>rw[aA b1];exact⟨λ_=>rfl,λh=>absurd (EQ.1 h).1 b1⟩
  rw[az b1]
  by_cases b2: ∃j,j<i/\j<abD c.ce/\(c.ce[j]!).2=(c.ce[i]!).2
  ·rw[az b2]
   refine⟨λ_=>rfl,λh=>?_⟩;obtain⟨j,j1,j2,j3⟩:=b2;exact absurd j3 ((EQ.1 h).2.1 j j1)
  rw[aA b2]
  by_cases b3:(c.ce[i]!).1<=Ek c.ce i
  ·rw[az b3]
   exact⟨λ_=>rfl,λh=>absurd (EQ.1 h).2.2.1 (by omega)⟩
  rw[aA b3]
  by_cases b4:c.aW<=(c.ce[i]!).1
  ·rw[az b4]
   exact⟨λ_=>rfl,λh=>absurd (EQ.1 h).2.2.2 (by omega)⟩
  rw[aA b4];have ins:Qj ((c.ce.take i).map λx=>[x.2.1,x.2.2]) [(c.ce[i]!).2.1,(c.ce[i]!).2.2]=abE (((c.ce.take i).map λx=>[x.2.1,x.2.2])++[[(c.ce[i]!).2.1,(c.ce[i]!).2.2]]):=by unfold Qj YV;rw[KP,KQ,aA b2];rfl
  grind) (by
  unfold uZ;simp)
 have h0:Ek c.ce 0= -1:=rfl
 by_cases ok:hM c
 ·simp_all[hM.iff]
 rw[Do ok]
 grind[hM.iff]
theorem Q'(c:cm)(i:Nat)(hi:i<abD c.ce)(hl:(abD c.ce)<=200):
 ((∃j,j<i/\(c.ce[j]!).2=(c.ce[i]!).2)->aq jk ((i:Int),0,c.aW,c.ce,c.ce[i]!)=abE (.done 8))/\
 ((∀j,j<i-> ¬(c.ce[j]!).2=(c.ce[i]!).2)->aq jk ((i:Int),0,c.aW,c.ce,c.ce[i]!)=abE (.next (((i+1:Nat):Int),c.aW,c.ce))):=by
 refine eo (λj=>((i:Int),(j:Int),c.aW,c.ce,c.ce[i]!)) i (λj=>(c.ce[j]!).2=(c.ce[i]!).2) (λj hj=>?_) ?_
 ·have e1:=az (by omega)
  unfold jk;simp (disch:=omega) only[ar,aM]
  grind
 unfold jk
 have:abL ((i:Int)<(i:Int))=abK:=aA (by omega);simp (disch:=omega) only[this,ww,aM]
theorem KR(c:cm):yH c=abE (if hM c then 0 else 8):=by
 unfold yH;simp[]
 by_cases h1:200<abD c.ce
 ·rw[az (by omega),Do (λh=>by have:=h.len;omega)];rfl
 rw[aA (by omega)]
 by_cases h2:c.aW<0
 ·rw[az h2,Do (λh=>by have:=h.n0;omega)];rfl
 rw[aA h2]
 by_cases h3:1000000<c.aW
 ·rw[az h3,Do (λh=>by have:=h.n1;omega)];rfl
 simp;have key:=eo (body:=sO) (λi=>((i:Int),c.aW,c.ce)) (abD c.ce) (λi=> ¬(jB (c.ce[i]!).2/\0<=(c.ce[i]!).1/\(c.ce[i]!).1<c.aW/\(0<i->(c.ce[i-1]!).1<(c.ce[i]!).1)/\ ∀j,j<i-> ¬(c.ce[j]!).2=(c.ce[i]!).2)) (e:=0) (λi hi=>by
  have e1:abL ((i:Int)<((abD c.ce):Int))=abF:=az (by omega);have l1:=Q' c i hi (by omega);unfold sO;simp only[aK,e1,ar c.ce i hi,aj,L7]
  by_cases b1:jB (c.ce[i]!).2
  case neg=>rw[aA b1];exact⟨λ_=>rfl,λh=>absurd (EQ.1 h).1 b1⟩
  rw[az b1]
  by_cases b2:(c.ce[i]!).1<0
  ·rw[az b2]
   exact⟨λ_=>rfl,λh=>absurd (EQ.1 h).2.1 (by omega)⟩
  rw[aA b2]
  by_cases b3:c.aW<=(c.ce[i]!).1
  ·rw[az b3]
   exact⟨λ_=>rfl,λh=>absurd (EQ.1 h).2.2.1 (by omega)⟩
  rw[aA b3];have go:(0<i->(c.ce[i-1]!).1<(c.ce[i]!).1)->(¬(jB (c.ce[i]!).2/\0<=(c.ce[i]!).1/\(c.ce[i]!).1<c.aW/\(0<i->(c.ce[i-1]!).1<(c.ce[i]!).1)/\ ∀j,j<i-> ¬(c.ce[j]!).2=(c.ce[i]!).2)->aq jk ((i:Int),0,c.aW,c.ce,c.ce[i]!)=abE (.done 8))/\
   (¬¬(jB (c.ce[i]!).2/\0<=(c.ce[i]!).1/\(c.ce[i]!).1<c.aW/\(0<i->(c.ce[i-1]!).1<(c.ce[i]!).1)/\ ∀j,j<i-> ¬(c.ce[j]!).2=(c.ce[i]!).2)->aq jk ((i:Int),0,c.aW,c.ce,c.ce[i]!)=abE (.next (((i+1:Nat):Int),c.aW,c.ce))):=by
   intro hp;constructor
   ·intro h
    refine l1.1 (Classical.byContradiction λhx=>h ⟨b1,by omega,by omega,hp,λj hj he=>hx ⟨j,hj,he⟩⟩)
   intro h
   exact l1.2 (EQ.1 h).2.2.2.2
  by_cases b4:0<i
  ·have f1:abL ((0:Int)<(i:Int))=abF:=az (by omega)
   simp (disch:=omega) only[f1,vt (by omega) b4,ar,aj]
   by_cases b5:(c.ce[i]!).1<=(c.ce[i-1]!).1
   ·rw[az b5]
    exact⟨λ_=>rfl,λh=>absurd ((EQ.1 h).2.2.2.1 b4) (by omega)⟩
   rw[aA b5]
   exact go λ_=>by omega
  ·have f1:abL ((0:Int)<(i:Int))=abK:=aA (by omega)
   rw[f1];exact go λh=>absurd h b4) (by
  unfold sO;have:abL (((abD c.ce):Int)<((abD c.ce):Int))=abK:=aA (by omega);simp[])
 have same:hM c↔ ∀i,i<abD c.ce->(jB (c.ce[i]!).2/\0<=(c.ce[i]!).1/\(c.ce[i]!).1<c.aW/\(0<i->(c.ce[i-1]!).1<(c.ce[i]!).1)/\ ∀j,j<i-> ¬(c.ce[j]!).2=(c.ce[i]!).2):=by
  constructor
  ·intro ok i hi
   exact⟨ok.cv i hi,(ok.nr i hi).1,(ok.nr i hi).2,λh=>ok.up (i-1) i (by omega) hi,λj hj=>ok.nd j i hj hi⟩
  intro h
  rw[hM.iff (by omega) (by omega) (by omega)];intro i hi;obtain⟨a1,a2,a3,a4,a5⟩:=h i hi;refine⟨a1,a5,?_,a3⟩;unfold Ek;split
  ·omega
  exact a4 (by omega)
 grind
def qy(l:List wk)(x:Int×Int):Prop:= ∃i,i<abD l/\(l[i]!).2=x
theorem Gb(l:List wk)(x:Int×Int)(hl:(abD l)<=1000000):cY l x=abE (abL (qy l x)):=by
 unfold cY hY;have key:=pz (body:=ed) (λi=>(l,x.1,x.2,((abD l):Int),(i:Int))) (abD l) (λi=>(l[i]!).2=x) (λi=>(i:Int)) (e:= -1) (λi hi=>by
  unfold ed ET;simp (disch:=omega) only[ar l i hi,aM]
  grind) (by
  unfold ed;simp)
 by_cases hx:qy l x
 ·obtain⟨k,h1,h2,h3⟩:=least hx
  have:=key.1 k h1 h2 h3;simp_all
 have:=key.2 λi hi he=>hx ⟨i,hi,he⟩
 grind
theorem xp:fx=cY:=rfl
theorem OO(c:cm)(x:Int×Int)(hl:(abD c.ce)<=1000000):Hi c x=abE (abL (qy c.ce x)):=by
 have key:=eo (body:=w6) (λi=>((i:Int),c.aW,c.ce,x)) (abD c.ce) (λi=>(c.ce[i]!).2=x) (r:=abF) (e:=abK) (λi hi=>by
  have e1:=az (by omega);unfold w6;simp (disch:=omega) only[ar c.ce i hi,aM]
  grind) (by
  unfold w6;simp)
 by_cases hx:qy c.ce x
 ·rw[az hx];exact key.1 hx
 rw[aA hx];exact key.2 λi hi he=>hx ⟨i,hi,he⟩
def tq(c:cm)(x:Int×Int):cm:=⟨c.aW+1,c.ce++[(c.aW,x)]⟩
def Ip(c:cm):Prop:=abD c.ce=200\/c.aW=1000000
theorem Ra{c:cm}(ok:hM c){x:Int×Int}(hx:jB x):F0 c x=abE (if qy c.ce x then(⟨0,[]⟩,0,14)else if Ip c then(⟨0,[]⟩,0,18)else(tq c x,c.aW,0)):=by
 have:=ok.len;have:=ok.n0;have:=ok.n1;unfold F0;rw[zy,AC ok,Ej,az hx,Gb _ _ (by omega)];simp[]
 by_cases h1:qy c.ce x
 ·grind
 rw[aA h1,Do h1];unfold Ip
 by_cases h2:(abD c.ce)=200
 ·grind
 rw[jA (by omega)]
 by_cases h3:c.aW=1000000
 ·grind
 rw[jA h3,Do (by omega)];have e:aa .i64 (c.aW+1)=c.aW+1:=by rw[wi];omega
 simp (disch:=omega) only[cM,aj,bG (show(abD c.ce)+[(c.aW,x)].length<=1048576 by simp;omega),e];rfl
theorem xX{c:cm}{x:Int×Int}{i:Nat}:(tq c x).ce[i]! =if i<(abD c.ce)then c.ce[i]! else if i=(abD c.ce)then(c.aW,x)else default:=by
 show(c.ce++[(c.aW,x)])[i]! =_
 grind
theorem DQ{c:cm}{x:Int×Int}:(tq c x).ce.length=abD c.ce+1:=by show(c.ce++[(c.aW,x)]).length=_;simp
theorem TO{c:cm}(ok:hM c){x:Int×Int}(hx:jB x)(hn: ¬qy c.ce x)(hf: ¬Ip c):hM (tq c x):=by
 have h1:=ok.len;have h2:=ok.n0;have h3:=ok.n1;unfold Ip at hf;refine⟨by rw[DQ];omega,by show 0<=c.aW+1;omega,by show c.aW+1<=1000000;omega,?_,?_,?_,?_⟩
 ·intro i hi
  rw[DQ]at hi;rw[xX]
  by_cases h:i<abD c.ce
  ·rw[AC h];exact ok.cv i h
  grind
 ·intro i hi
  rw[DQ]at hi;rw[xX];show 0<=_/\_<c.aW+1
  by_cases h:i<abD c.ce
  ·rw[AC h];have:=ok.nr i h;omega
  grind
 ·intro i j p8 hj
  rw[DQ]at hj;rw[xX,xX,AC (by omega)]
  by_cases h:j<abD c.ce
  ·rw[AC h];exact ok.up i j p8 h
  rw[Do h,AC (by omega)]
  exact(ok.nr i (by omega)).2
 intro i j p8 hj
 rw[DQ]at hj;rw[xX,xX,AC (by omega)]
 by_cases h:j<abD c.ce
 ·rw[AC h];exact ok.nd i j p8 h
 rw[Do h,AC (by omega)]
 exact λhe=>hn ⟨i,by omega,he⟩
def tu(c:cm)(k:Nat):cm:=⟨c.aW,c.ce.eraseIdx k⟩
theorem Gc{α:Type}{l:List α}{k:Nat}(hk:k<abD l):(l.eraseIdx k).length=abD l-1:=by
 grind
theorem KS{c:cm}(ok:hM c){k:Nat}(hk:k<abD c.ce):hM (tu c k):=by
 have h1:=ok.len;have len:(tu c k).ce.length=abD c.ce-1:=Gc hk;have cell: ∀i,∃j,i<=j/\j<=i+1/\(i<abD c.ce-1->j<abD c.ce)/\(tu c k).ce[i]! =c.ce[j]!/\(i<k->j=i)/\(k<=i->j=i+1):=by
  intro i
  by_cases h:i<k
  ·exact⟨i,by omega,by omega,by omega,by show(c.ce.eraseIdx k)[i]! =_;grind,λ_=>rfl,by omega⟩
  exact⟨i+1,by omega,by omega,by omega,by show(c.ce.eraseIdx k)[i]! =_;grind,by omega,λ_=>rfl⟩
 refine⟨by omega,ok.n0,ok.n1,?_,?_,?_,?_⟩
 ·intro i hi
  obtain⟨j,j1,j2,j3,j4,j5,j6⟩:=cell i;rw[j4];exact ok.cv j (j3 (by omega))
 ·intro i hi
  obtain⟨j,j1,j2,j3,j4,j5,j6⟩:=cell i;rw[j4];exact ok.nr j (j3 (by omega))
 ·intro i i' p8 hi
  obtain⟨j,j1,j2,j3,j4,j5,j6⟩:=cell i;obtain⟨m,m1,m2,m3,m4,m5,m6⟩:=cell i';rw[j4,m4];exact ok.up j m (by omega) (m3 (by omega))
 intro i i' p8 hi
 obtain⟨j,j1,j2,j3,j4,j5,j6⟩:=cell i;obtain⟨m,m1,m2,m3,m4,m5,m6⟩:=cell i';rw[j4,m4];exact ok.nd j m (by omega) (m3 (by omega))
theorem C2{c:cm}(ok:hM c){k:Nat}(hk:k<abD c.ce){n:Int}(hn:(c.ce[k]!).1=n):yE c n=abE (tu c k,(c.ce[k]!).2,0):=by have h1:=ok.len;unfold yE He;obtain⟨L,d1,d2⟩:=yX c.ce k hk;rw[zy,AC ok,(tj c.ce n (by omega) ok.up).1 k hk hn];simp (disch:=omega) only[aj,show((0:Int) !=0)=abK from rfl,ww,If,cM,aM,d1,ar c.ce k hk,d2];rfl
def dY(l:List Pt)(id:Int):Prop:= ∃k,k<abD l/\(l[k]!).1=id
noncomputable def bC(l:List Pt)(id:Int):Pt:=if h:dY l id then l[h.choose]! else(-1,0,0)
theorem iO{l:List Pt}(hs:eu l){k:Nat}(hk:k<abD l){id:Int}(h:(l[k]!).1=id):bC l id=l[k]!:=by
 have hp:dY l id:=⟨k,hk,h⟩;unfold bC
 grind[gT]
theorem bK{l:List Pt}(ok:aR l){id:Int}(h:dY l id):fM (bC l id)/\(bC l id).1=id:=by obtain⟨k,hk,he⟩:=h;rw[iO ok.2.2 hk he];exact⟨ok.2.1 _ (aE hk),he⟩
theorem Ht{l:List Pt}{id:Int}(h: ¬dY l id):bC l id=(-1,0,0):=by unfold bC;rw[dif_neg h]
theorem pC{l:List Pt}(ok:aR l)(id:Int):lP ⟨l⟩ id=abE (bC l id):=by
 have h1:=ok.1;have bs:=tj l id (by omega) (λi j=>fD ok.2.2);unfold lP;rw[aaA]
 by_cases h:dY l id
 ·obtain⟨k,hk,he⟩:=h
  rw[bs.1 k hk he];simp[ar l k hk,iO ok.2.2 hk he]
 obtain⟨m,m1,m2,m3,e⟩:=bs.2 (λk hk he=>h ⟨k,hk,he⟩)
 rw[e,Ht h];rfl
theorem zz{l:List Pt}(ok:aR l){id:Int}(h:dY l id): ∃k,k<abD l/\iP ⟨l⟩ id=abE (k:Int)/\l[k]! =bC l id:=by have h1:=ok.1;obtain⟨k,hk,he⟩:=h;exact⟨k,hk,M4 ok.2.2 (by omega) hk he,(iO ok.2.2 hk he).symm⟩
theorem OP{l:List Pt}(ok:aR l){id:Int}(h: ¬dY l id):iP ⟨l⟩ id=abE (-1):=by have h1:=ok.1;exact adl (by omega) λk hk he=>h ⟨k,hk,he⟩
def kr(l:List Pt)(x:Int×Int):Prop:=dY l x.1/\dY l x.2
noncomputable def bP(l:List Pt)(x t:Int×Int):(Int×Int)×Bool:=jl (bC l x.2) (bC l x.1) t
theorem zA{l:List Pt}(ok:aR l){x t:Int×Int}(hx:jB x)(ht:bo t)(h64:jb t):
 uz ⟨l⟩ x t=abE (if kr l x then((bP l x t).1,(bP l x t).2,0)else((0,0),abK,8)):=by
 unfold uz;rw[pC ok,pC ok];simp[IL h64];have bad: ¬fM (-1,0,0):=by unfold fM;omega
 by_cases h1:dY l x.1
 ·by_cases h2:dY l x.2
  ·obtain⟨p1,p2⟩:=bK ok h1
   obtain⟨q1,q2⟩:=bK ok h2;rw[AC ⟨q1,p1,ht,by rw[p2,q2];exact λh=>hx.2.2.2.2 h.symm⟩,AC ⟨h1,h2⟩];rfl
  rw[Ht h2,Do (λh=>bad h.1),Do (λh=>bad h.1),Do (λh=>h2 h.2)]
 rw[Ht h1,Do (λh=>bad h.2.1),Do (λh=>bad h.2.1),Do (λh=>h1 h.1)]
theorem L8{l:List Pt}(ok:aR l){x t:Int×Int}(h64:jb t)(hb:kr l x):Bj ⟨l⟩ x t=abE (bP l x t):=by obtain⟨h1,h2⟩:=hb;obtain⟨j,j1,j2,j3⟩:=zz ok h1;obtain⟨k,k1,k2,k3⟩:=zz ok h2;unfold Bj;simp[j2,k2,ar l j j1,ar l k k1,j3,k3,TB (bK ok h2).1 (bK ok h1).1 h64];rfl
theorem aaB(c:cm){l:List Pt}(ok:aR l)(hl:(abD c.ce)<=200):yJ c ⟨l⟩=abE (abL (∀i,i<abD c.ce->kr l (c.ce[i]!).2)):=by
 unfold yJ;have key:=eo (body:=sP) (λi=>((i:Int),c.aW,c.ce,l)) (abD c.ce) (λi=> ¬kr l _) (e:=abF) (λi hi=>by
  have e1:abL ((i:Int)<((abD c.ce):Int))=abF:=az (by omega);unfold sP kr;simp (disch:=omega) only[aK,e1,v6,ar c.ce i hi,aj,aM]
  by_cases h1:dY l (c.ce[i]!).2.1
  ·obtain⟨k,k1,k2,_⟩:=zz ok h1
   rw[k2]
   by_cases h2:dY l (c.ce[i]!).2.2
   ·obtain⟨j,j1,j2,_⟩:=zz ok h2
    rw[j2];simp (disch:=omega) only[aj,aA,ww];exact⟨λh=>absurd ⟨h1,h2⟩ h,λ_=>trivial⟩
   rw[OP ok h2]
   exact⟨λ_=>rfl,λh=>absurd (EQ.1 h).2 h2⟩
  ·rw[OP ok h1]
   exact⟨λ_=>rfl,λh=>absurd (EQ.1 h).1 h1⟩) (by
  unfold sP;simp[])
 by_cases hx: ∀i,i<abD c.ce->kr l (c.ce[i]!).2
 ·rw[az hx];exact key.2 λi hi=>EQ.2 (hx i hi)
 grind
def bk(l:List Pt)(t:Int×Int)(H:List Ev):List wk->List wk->Prop
 | [],ds=>ds=[]
 |x::cs,ds=>((bP l x.2 t).2=abF-> ∃d EB,ds=d::EB/\d.1=x.1/\((bP l x.2 t).1.1,(bP l x.2 t).1.2,x.1,d.2)∈H/\bk l t H cs EB)/\((bP l x.2 t).2=abK->bk l t H cs ds)
structure aT(c:aH):Prop where
 gZ:bo c.ci
 dP:jb c.ci
 dI:aR c.ii.am
 wF:hM c.af
 nB:gb c.ae
 Hu:(abD c.ae.aC)=200
 hd:(abD c.ae.bv)=abD c.io
 known: ∀i,i<abD c.af.ce->kr c.ii.am (c.af.ce[i]!).2
 AA:bk c.ii.am c.ci c.ae.bv c.af.ce c.io
structure oc(c:aH):Prop where
 dP:jb c.ci
 ag:CY c.ae
 du:(abD c.io)<=1000000
theorem aeV{a:aS}(ok:gb a)(w2:(abD a.aC)=200)(t:Int×Int)(n:Int)(h:Int×Int):
 (0<=h.1/\h.1<200/\0<=a.aC[h.1.toNat]!/\a.bv[(a.aC[h.1.toNat]!).toNat]! =(t.1,t.2,n,h))↔((t.1,t.2,n,h):Ev)∈a.bv:=by
 have wl:=ok.wl;constructor
 ·rintro⟨h1,h2,h3,h4⟩
  cases hb:a.ai.be[h.1.toNat]! with
  |false=>have:=ok.un h.1.toNat (by omega) hb;omega
  |true=>
   have:=ok.fwd h.1.toNat (by omega) hb
   grind
 intro hm
 obtain⟨w,hw,he⟩:=aN.1 hm;obtain⟨b1,b2,b3,b4,b5⟩:=ok.back hw
 grind
theorem aaC{a:aS}(ok:gb a){i:Nat}(hi:i<abD a.ai.ay)(h:0<=a.aC[i]!):a.aC[i]!<(abD a.bv):=by
 cases hb:a.ai.be[i]! with
 |false=>have:=ok.un i hi hb;omega
 |true=>exact(ok.fwd i hi hb).2.1
theorem uH{α:Type}[Inhabited α]{l:List α}{i:Nat}(h:i<abD l):l.drop i=l[i]!::l.drop (i+1):=by simp_all
theorem Rb{c:aH}(gZ:bo c.ci)(dP:jb c.ci)(dI:aR c.ii.am)(wF:hM c.af)(nB:gb c.ae)(w2:(abD c.ae.aC)=200):
 ∀(d i:Nat) (ds:List wk),abD c.af.ce-i<=d->i<=abD c.af.ce->abD ds<=1000000->
  aq dA (ds,c.af.ce,((abD c.af.ce):Int),(i:Int),c.ci.1,c.ci.2,c.ii.am,c.af.aW,c.af.ce,c.ae.ai.ay,c.ae.ai.be,c.ae.ai.bi,c.ae.bv,c.ae.aC,c.io)=
   abE (.done (if(∀j,i<=j->j<abD c.af.ce->kr c.ii.am (c.af.ce[j]!).2)/\bk c.ii.am c.ci c.ae.bv (c.af.ce.drop i) ds then 0 else 8)):=by
 have hl:=wF.len;have wl:=nB.wl;have fin: ∀(ds:List wk),aq dA (ds,c.af.ce,((abD c.af.ce):Int),((abD c.af.ce):Int),c.ci.1,c.ci.2,c.ii.am,c.af.aW,c.af.ce,c.ae.ai.ay,c.ae.ai.be,c.ae.ai.bi,c.ae.bv,c.ae.aC,c.io)=abE (.done (if ds=[]then 0 else 8)):=by
  intro ds;refine au ?_;unfold dA;have e1:abL (((abD c.af.ce):Int)<((abD c.af.ce):Int))=abK:=aA (by omega);simp only[aK,e1,ww];cases ds with
  |nil=>rfl
  |cons d ds=>simp
 intro d
 induction d with
 |zero=>
  intro i ds hd hi hds;have:i=(abD c.af.ce):=by omega
  subst this;rw[fin ds,ab0];have:((∀j,abD c.af.ce<=j->j<abD c.af.ce->kr c.ii.am (c.af.ce[j]!).2)/\bk c.ii.am c.ci c.ae.bv [] ds)↔ds=[]:=⟨λh=>h.2,λh=>⟨λj h1 h2=>by omega,h⟩⟩
  grind
 |succ d ih=>
  intro i ds hd hi hds
  by_cases he:i=abD c.af.ce
  ·grind
  have tY:i<(abD c.af.ce):=by omega
  have e1:abL ((i:Int)<((abD c.af.ce):Int))=abF:=az (by omega);have hw:=zA dI (wF.cv i tY) gZ dP;have dr:=uH tY;have all:(∀j,i<=j->j<abD c.af.ce->kr c.ii.am (c.af.ce[j]!).2)↔(kr c.ii.am (c.af.ce[i]!).2/\ ∀j,i+1<=j->j<abD c.af.ce->kr c.ii.am (c.af.ce[j]!).2):=by
   grind
  have sc:=aM (show i<1000000000 by omega)
  by_cases hb:kr c.ii.am (c.af.ce[i]!).2
  case neg=>rw[Do (λh=>hb (all.1 h.1).1)];refine au ?_;unfold dA;simp_all[v6,ar,aj,Do]
  rw[AC hb]at hw
  by_cases is:(bP c.ii.am (c.af.ce[i]!).2 c.ci).2=abF
  case neg=>
   have is':(bP c.ii.am (c.af.ce[i]!).2 c.ci).2=abK:=by simpa using is
   rw[aQ (y:=(ds,c.af.ce,((abD c.af.ce):Int),((i+1:Nat):Int),c.ci.1,c.ci.2,c.ii.am,c.af.aW,c.af.ce,c.ae.ai.ay,c.ae.ai.be,c.ae.ai.bi,c.ae.bv,c.ae.aC,c.io)) (by unfold dA;simp_all[v6,ar,aj,ww,abu]),ih (i+1) ds (by omega) (by omega) hds];have same:((∀j,i<=j->j<abD c.af.ce->kr c.ii.am (c.af.ce[j]!).2)/\bk c.ii.am c.ci c.ae.bv (c.af.ce.drop i) ds)↔((∀j,i+1<=j->j<abD c.af.ce->kr c.ii.am (c.af.ce[j]!).2)/\bk c.ii.am c.ci c.ae.bv (c.af.ce.drop (i+1)) ds):=by
    rw[dr,all];constructor
    ·rintro⟨⟨_,h1⟩,h2⟩;exact⟨h1,h2.2 is'⟩
    rintro⟨h1,h2⟩;exact⟨⟨hb,h1⟩,λh=>absurd h is,λ_=>h2⟩
   simp only[same]
  have stop:(¬((∀j,i<=j->j<abD c.af.ce->kr c.ii.am (c.af.ce[j]!).2)/\bk c.ii.am c.ci c.ae.bv (c.af.ce.drop i) ds))->dA (ds,c.af.ce,((abD c.af.ce):Int),(i:Int),c.ci.1,c.ci.2,c.ii.am,c.af.aW,c.af.ce,c.ae.ai.ay,c.ae.ai.be,c.ae.ai.bi,c.ae.bv,c.ae.aC,c.io)=abE (.done (.done 8))->aq dA (ds,c.af.ce,((abD c.af.ce):Int),(i:Int),c.ci.1,c.ci.2,c.ii.am,c.af.aW,c.af.ce,c.ae.ai.ay,c.ae.ai.be,c.ae.ai.bi,c.ae.bv,c.ae.aC,c.io)=
   abE (.done (if(∀j,i<=j->j<abD c.af.ce->kr c.ii.am (c.af.ce[j]!).2)/\bk c.ii.am c.ci c.ae.bv (c.af.ce.drop i) ds then 0 else 8)):=by
   simp_all[Do,au]
  cases ds with
  |nil=>
   refine stop (λh=>?_) ?_
   ·rw[dr]at h
    obtain⟨d,EB,h1,_⟩:=h.2.1 is;cases h1
   unfold dA
   simp_all[v6,ar,aj,ww,If]
  |cons d0 ds=>
   have l0:((((d0::ds).length:Nat):Int)==0)=abK:=jA (by simp;omega);have g0:aF (d0::ds) 0=abE d0:=rfl;have AA: ∀P:Prop,(P↔d0.1=(c.af.ce[i]!).1/\(((bP c.ii.am (c.af.ce[i]!).2 c.ci).1.1,(bP c.ii.am (c.af.ce[i]!).2 c.ci).1.2,(c.af.ce[i]!).1,d0.2):Ev)∈c.ae.bv)-> ¬P-> ¬((∀j,i<=j->j<abD c.af.ce->kr c.ii.am (c.af.ce[j]!).2)/\bk c.ii.am c.ci c.ae.bv (c.af.ce.drop i) (d0::ds)):=by
    intro P hP hn h;rw[dr]at h;obtain⟨d,EB,h1,h2,h3,_⟩:=h.2.1 is
    grind
   by_cases b1:d0.1=(c.af.ce[i]!).1
   case neg=>refine stop (AA (d0.1=(c.af.ce[i]!).1/\_) abq (λh=>b1 h.1)) ?_;unfold dA;simp only[aK,e1,v6,ar c.af.ce i tY,aj,hw,is,show((0:Int) !=0)=abK from rfl,ww,If,l0,g0,dV b1]
   have ea:=aeV nB w2 (bP c.ii.am (c.af.ce[i]!).2 c.ci).1 (c.af.ce[i]!).1 d0.2
   by_cases b2:d0.2.1<0
   ·refine stop (AA (d0.1=(c.af.ce[i]!).1/\_) abq (λh=>by have:=(ea.2 h.2).1;omega)) ?_
    unfold dA;simp only[aK,e1,v6,ar c.af.ce i tY,aj,hw,is,show((0:Int) !=0)=abK from rfl,ww,If,l0,g0,bw b1,az b2]
   by_cases b3:200<=d0.2.1
   ·refine stop (AA (d0.1=(c.af.ce[i]!).1/\_) abq (λh=>by have:=(ea.2 h.2).2.1;omega)) ?_
    unfold dA;simp only[aK,e1,v6,ar c.af.ce i tY,aj,hw,is,show((0:Int) !=0)=abK from rfl,ww,If,l0,g0,bw b1,aA b2,az b3]
   have gw:=kT (l:=c.ae.aC) (i:=d0.2.1) (by omega) (by omega)
   by_cases b4:c.ae.aC[d0.2.1.toNat]!<0
   ·refine stop (AA (d0.1=(c.af.ce[i]!).1/\_) abq (λh=>by have:=(ea.2 h.2).2.2.1;omega)) ?_
    unfold dA;simp only[aK,e1,v6,ar c.af.ce i tY,aj,hw,is,show((0:Int) !=0)=abK from rfl,ww,If,l0,g0,bw b1,aA b2,aA b3,gw,az b4]
   have gh:=kT (i:=c.ae.aC[d0.2.1.toNat]!) (by omega) (aaC nB (by omega) (by omega));have sl:jE (d0::ds) 1 ((((d0::ds).length:Nat):Int))=abE ds:=by unfold jE;rw[AC ⟨by omega,by simp;omega,by omega⟩];simp
   have evq: ∀(e:Ev) (p:Int×Int) (n:Int) (h:Int×Int),((e.1==p.1)&&((e.2.1==p.2)&&((e.2.2.1==n)&&((e.2.2.2.1==h.1)&&(e.2.2.2.2==h.2)))))=abL (e=(p.1,p.2,n,h)):=by
    intro e p n h;rw[abr,decide_eq_true_iff];simp only[Bool.and_eq_true,beq_iff_eq];constructor
    ·rintro⟨h1,h2,h3,h4,h5⟩
     exact aaP h1 (aaP h2 (aaP h3 (aaP h4 h5)))
    intro h;rw[h];exact⟨rfl,rfl,rfl,rfl,rfl⟩
   have alm:=evq c.ae.bv[(c.ae.aC[d0.2.1.toNat]!).toNat]! (bP c.ii.am (c.af.ce[i]!).2 c.ci).1 (c.af.ce[i]!).1 d0.2
   by_cases b5:c.ae.bv[(c.ae.aC[d0.2.1.toNat]!).toNat]! =((bP c.ii.am (c.af.ce[i]!).2 c.ci).1.1,(bP c.ii.am (c.af.ce[i]!).2 c.ci).1.2,(c.af.ce[i]!).1,d0.2)
   case neg=>refine stop (AA (d0.1=(c.af.ce[i]!).1/\_) abq (λh=>b5 (ea.2 h.2).2.2.2)) ?_;unfold dA;simp only[aK,e1,v6,ar c.af.ce i tY,aj,hw,is,show((0:Int) !=0)=abK from rfl,ww,If,l0,g0,bw b1,aA b2,aA b3,gw,aA b4,gh];rw[alm,aA b5];rfl
   have ID:=ea.1 ⟨by omega,by omega,by omega,b5⟩;rw[aQ (by unfold dA;simp only[aK,e1,v6,ar c.af.ce i tY,aj,hw,is,show((0:Int) !=0)=abK from rfl,ww,If,l0,g0,bw b1,aA b2,aA b3,gw,aA b4,gh,sl,sc];rw[alm,az b5];rfl),ih (i+1) ds (by omega) (by omega) (by simp at hds;omega)];have same:((∀j,i<=j->j<abD c.af.ce->kr c.ii.am (c.af.ce[j]!).2)/\bk c.ii.am c.ci c.ae.bv (c.af.ce.drop i) (d0::ds))↔((∀j,i+1<=j->j<abD c.af.ce->kr c.ii.am (c.af.ce[j]!).2)/\bk c.ii.am c.ci c.ae.bv (c.af.ce.drop (i+1)) ds):=by
    rw[dr,all];constructor
    ·rintro⟨⟨_,h1⟩,h2⟩
     obtain⟨d,EB,k1,k2,k3,k4⟩:=h2.1 is;injection k1 with k1 k5;subst k5;exact⟨h1,k4⟩
    rintro⟨h1,h2⟩
    exact⟨⟨hb,h1⟩,λ_=>⟨d0,ds,rfl,b1,ID,h2⟩,λh=>by rw[is]at h;cases h⟩
   simp only[same]
theorem aT.iff{c:aH}(fit:oc c):aT c↔bo c.ci/\aR c.ii.am/\hM c.af/\gb c.ae/\abD c.ae.aC=200/\abD c.ae.bv=abD c.io/\(∀i,i<abD c.af.ce->kr c.ii.am (c.af.ce[i]!).2)/\bk c.ii.am c.ci c.ae.bv c.af.ce c.io:=
 ⟨λh=>⟨h.gZ,h.dI,h.wF,h.nB,h.Hu,h.hd,h.known,h.AA⟩,λ⟨h1,h2,h3,h4,h5,h6,h7,h8⟩=>⟨h1,fit.dP,h2,h3,h4,h5,h6,h7,h8⟩⟩
theorem aT.fit{c:aH}(ok:aT c):oc c:=⟨ok.dP,ok.nB.fit,by have:=ok.hd;have:=ok.nB.bd;omega⟩
theorem Rc{c:aH}{n0 n1 n2 n3:Int}:
 aq gD (4,0,c.ci.1,c.ci.2,c.ii.am,c.af.aW,c.af.ce,c.ae.ai.ay,c.ae.ai.be,c.ae.ai.bi,c.ae.bv,c.ae.aC,c.io,[n0,n1,n2,n3])=
  if n0=0/\n1=0/\n2=0/\n3=0 then aq gD (4,4,c.ci.1,c.ci.2,c.ii.am,c.af.aW,c.af.ce,c.ae.ai.ay,c.ae.ai.be,c.ae.ai.bi,c.ae.bv,c.ae.aC,c.io,[n0,n1,n2,n3])else abE 8:=by
 have st: ∀(i:Nat) (n:Int),i<4->aF [n0,n1,n2,n3] (i:Int)=abE n->aq gD (4,(i:Int),c.ci.1,c.ci.2,c.ii.am,c.af.aW,c.af.ce,c.ae.ai.ay,c.ae.ai.be,c.ae.ai.bi,c.ae.bv,c.ae.aC,c.io,[n0,n1,n2,n3])=
  if n=0 then aq gD (4,((i+1:Nat):Int),c.ci.1,c.ci.2,c.ii.am,c.af.aW,c.af.ce,c.ae.ai.ay,c.ae.ai.be,c.ae.ai.bi,c.ae.bv,c.ae.aC,c.io,[n0,n1,n2,n3])else abE 8:=by
  intro i n hi hg;have e1:abL ((i:Int)<4)=abF:=az (by omega)
  by_cases h:n=0
  ·rw[AC h]
   refine aQ ?_;unfold gD;simp (disch:=omega) only[e1,v6,hg,aj,bw h,ww,aM]
  rw[Do h]
  refine au ?_;unfold gD;simp[e1,hg,dV h]
 have s0:=st 0 n0 (by omega) rfl;have s1:=st 1 n1 (by omega) rfl;have s2:=st 2 n2 (by omega) rfl;have s3:=st 3 n3 (by omega) rfl
 grind
theorem iF{c:aH}(fit:oc c):fG c=abE (if aT c then 0 else 8):=by
 unfold fG;rw[cZ fit.dP,eW,zy,lA _ fit.ag];simp only[aj];have h4:Int.ofNat [if bo c.ci then(0:Int)else 8,jS c.ii.am,if hM c.af then(0:Int)else 8,if gb c.ae then(0:Int)else 8].length=4:=rfl;rw[h4,Rc];simp[dM];have f1:=aT.iff fit
 by_cases ok:bo c.ci/\aR c.ii.am/\hM c.af/\gb c.ae
 case neg=>rw[Do ok,Do (λh=>ok ⟨h.gZ,h.dI,h.wF,h.nB⟩)]
 obtain⟨gZ,dI,wF,nB⟩:=ok;rw[AC ⟨gZ,dI,wF,nB⟩]
 by_cases w2:(abD c.ae.aC)=200
 case neg=>rw[Do (c:=aT c) (λh=>w2 h.Hu)];refine au ?_;unfold gD;simp (disch:=omega) only[aK,aA,ww,dV,v6]
 by_cases hd:(abD c.ae.bv)=abD c.io
 case neg=>rw[Do (c:=aT c) (λh=>hd h.hd)];refine au ?_;unfold gD;simp (disch:=omega) only[aK,aA,ww,bw,dV,v6]
 have run:=Rb gZ fit.dP dI wF nB w2 (abD c.af.ce) 0 c.io (by omega) (by omega) fit.du;have same:((∀j,0<=j->j<abD c.af.ce->kr c.ii.am (c.af.ce[j]!).2)/\bk c.ii.am c.ci c.ae.bv c.af.ce c.io)↔aT c:=by
  rw[f1];constructor
  ·rintro⟨h1,h2⟩;exact⟨gZ,dI,wF,nB,w2,hd,λi hi=>h1 i (by omega) hi,h2⟩
  rintro⟨_,_,_,_,_,_,h1,h2⟩;exact⟨λj _ hj=>h1 j hj,h2⟩
 refine au ?_;unfold gD
 grind
theorem adn{a:aS}(ok:gb a)(h:Int×Int):Bk a h=abE (if Af a.ai h then(a.bv[(a.aC[h.1.toNat]!).toNat]!,0)else((0,0,0,0,0),6)):=by
 unfold Bk;rw[CZ a ok.fit,AC ok,Vj ok.so]
 by_cases lv:Af a.ai h
 ·obtain⟨i,hi,hw,hh⟩:=ok.live lv
  have:=lv.1;have:=lv.2.1;have:=ok.wl;rw[az lv,AC lv,kT lv.1 (by omega),hw];simp[ar a.bv i hi,]
 grind
theorem Re{c:aH}(dP:jb c.ci)(dI:aR c.ii.am)(wF:hM c.af)(nB:gb c.ae)(w2:(abD c.ae.aC)=200)(hdu:(abD c.io)<=1000000)
 (kn: ∀i,i<abD c.af.ce->kr c.ii.am (c.af.ce[i]!).2):
 ∀(d i k:Nat),abD c.af.ce-i<=d->i<=abD c.af.ce->k<=abD c.io->
  aq eh ((k:Int),(i:Int),c.ci.1,c.ci.2,c.ii.am,c.af.aW,c.af.ce,c.ae.ai.ay,c.ae.ai.be,c.ae.ai.bi,c.ae.bv,c.ae.aC,c.io)=
   abE (if bk c.ii.am c.ci c.ae.bv (c.af.ce.drop i) (c.io.drop k)then 0 else 8):=by
 have hl:=wF.len;have wl:=nB.wl;have fin: ∀k:Nat,k<=abD c.io->aq eh ((k:Int),((abD c.af.ce):Int),c.ci.1,c.ci.2,c.ii.am,c.af.aW,c.af.ce,c.ae.ai.ay,c.ae.ai.be,c.ae.ai.bi,c.ae.bv,c.ae.aC,c.io)=abE (if bk c.ii.am c.ci c.ae.bv (c.af.ce.drop (abD c.af.ce)) (c.io.drop k)then 0 else 8):=by
  intro k hk;rw[ab0];refine au ?_;unfold eh;have e1:abL (((abD c.af.ce):Int)<((abD c.af.ce):Int))=abK:=aA (by omega);simp only[aK,e1,ww];have:bk c.ii.am c.ci c.ae.bv [] (c.io.drop k)↔k=(abD c.io):=by show c.io.drop k=[]↔_;rw[WF];omega
  grind
 intro d
 induction d with
 |zero=>
  grind
 |succ d ih=>
  intro i k hd hi hk
  by_cases he:i=abD c.af.ce
  ·subst he;exact fin k hk
  have tY:i<(abD c.af.ce):=by omega
  have e1:abL ((i:Int)<((abD c.af.ce):Int))=abF:=az (by omega);have hw:=L8 dI dP (kn i tY);have dr:=uH tY;have sc:=aM (show i<1000000000 by omega);have sk:=aM (show k<1000000000 by omega)
  by_cases is:(bP c.ii.am (c.af.ce[i]!).2 c.ci).2=abF
  case neg=>
   have is':(bP c.ii.am (c.af.ce[i]!).2 c.ci).2=abK:=by simpa using is
   rw[aQ (y:=((k:Int),((i+1:Nat):Int),c.ci.1,c.ci.2,c.ii.am,c.af.aW,c.af.ce,c.ae.ai.ay,c.ae.ai.be,c.ae.ai.bi,c.ae.bv,c.ae.aC,c.io)) (by unfold eh;simp only[aK,e1,v6,ar c.af.ce i tY,aj,hw,sc,is',abu]),ih (i+1) k (by omega) (by omega) hk];have same:bk c.ii.am c.ci c.ae.bv (c.af.ce.drop i) (c.io.drop k)↔bk c.ii.am c.ci c.ae.bv (c.af.ce.drop (i+1)) (c.io.drop k):=by rw[dr];exact⟨λh=>h.2 is',λh=>⟨λh'=>absurd h' is,λ_=>h⟩⟩
   simp only[same]
  have stop:(¬bk c.ii.am c.ci c.ae.bv (c.af.ce.drop i) (c.io.drop k))->eh ((k:Int),(i:Int),c.ci.1,c.ci.2,c.ii.am,c.af.aW,c.af.ce,c.ae.ai.ay,c.ae.ai.be,c.ae.ai.bi,c.ae.bv,c.ae.aC,c.io)=abE (.done 8)->
   aq eh ((k:Int),(i:Int),c.ci.1,c.ci.2,c.ii.am,c.af.aW,c.af.ce,c.ae.ai.ay,c.ae.ai.be,c.ae.ai.bi,c.ae.bv,c.ae.aC,c.io)=abE (if bk c.ii.am c.ci c.ae.bv (c.af.ce.drop i) (c.io.drop k)then 0 else 8):=by
   intro h1 h2;rw[Do h1];exact au h2
  by_cases Yc:k=abD c.io
  ·refine stop (λh=>?_) ?_
   ·rw[dr]at h
    obtain⟨d,EB,h1,_⟩:=h.1 is;rw[Yc,ab0]at h1;cases h1
   unfold eh
   simp (disch:=omega) only[aK,e1,v6,ar c.af.ce i tY,aj,hw,is,If,ww,az]
  have LS:k<(abD c.io):=by omega
  have dk:=uH LS;have e2:abL (((abD c.io):Int)<=(k:Int))=abK:=aA (by omega);have AA: ¬((c.io[k]!).1=(c.af.ce[i]!).1/\(((bP c.ii.am (c.af.ce[i]!).2 c.ci).1.1,(bP c.ii.am (c.af.ce[i]!).2 c.ci).1.2,(c.af.ce[i]!).1,(c.io[k]!).2):Ev)∈c.ae.bv)-> ¬bk c.ii.am c.ci c.ae.bv (c.af.ce.drop i) (c.io.drop k):=by intro hn h;rw[dr,dk]at h;obtain⟨d,EB,h1,h2,h3,_⟩:=h.1 is;injection h1 with h1 _;subst h1;exact hn ⟨h2,h3⟩
  by_cases b1:(c.io[k]!).1=(c.af.ce[i]!).1
  case neg=>refine stop (AA (λh=>b1 h.1)) ?_;unfold eh;simp only[aK,e1,v6,ar c.af.ce i tY,aj,hw,is,If,ww,e2,ar c.io k LS,dV b1]
  have fi:=adn nB (c.io[k]!).2;have ea:=aeV nB w2 (bP c.ii.am (c.af.ce[i]!).2 c.ci).1 (c.af.ce[i]!).1 (c.io[k]!).2;have fi':=fi
  by_cases lv:Af c.ae.ai (c.io[k]!).2
  case neg=>
   rw[Do lv]at fi';refine stop (AA (λh=>lv ?_)) ?_
   ·obtain⟨w,hw',me⟩:=aN.1 h.2
    have:=(nB.handle hw').1
    rwa [me]at this
   unfold eh
   simp only[aK,e1,v6,ar c.af.ce i tY,aj,hw,is,If,ww,e2,ar c.io k LS,bw b1,fi',show((6:Int) !=0)=abF from rfl]
  rw[AC lv]at fi';obtain⟨w,hw1,hw2,hw3⟩:=nB.live lv;rw[hw2,IR]at fi';have q1:(0<=(c.io[k]!).2.1/\(c.io[k]!).2.1<200/\0<=c.ae.aC[(c.io[k]!).2.1.toNat]!):=⟨lv.1,by have:=lv.2.1;omega,by rw[hw2];omega⟩
  by_cases b2:(c.ae.bv[w]!).2.2.1=(c.af.ce[i]!).1
  case neg=>
   refine stop (AA (λh=>b2 ?_)) ?_
   ·have:=(ea.2 h.2).2.2.2
    rw[hw2,IR]at this;rw[this]
   unfold eh
   simp only[aK,e1,v6,ar c.af.ce i tY,aj,hw,is,If,ww,e2,ar c.io k LS,bw b1,fi',show((0:Int) !=0)=abK from rfl,dV b2]
  have teq:((c.ae.bv[w]!).1==(bP c.ii.am (c.af.ce[i]!).2 c.ci).1.1&&(c.ae.bv[w]!).2.1==(bP c.ii.am (c.af.ce[i]!).2 c.ci).1.2)=abL (((c.ae.bv[w]!).1,(c.ae.bv[w]!).2.1)=(bP c.ii.am (c.af.ce[i]!).2 c.ci).1):=by
   rw[abr,decide_eq_true_iff];simp;constructor
   ·rintro⟨h1,h2⟩;exact aaP h1 h2
   intro h;rw[<-h];exact⟨rfl,rfl⟩
  by_cases b3:((c.ae.bv[w]!).1,(c.ae.bv[w]!).2.1)=(bP c.ii.am (c.af.ce[i]!).2 c.ci).1
  case neg=>
   refine stop (AA (λh=>b3 ?_)) ?_
   ·have:=(ea.2 h.2).2.2.2
    rw[hw2,IR]at this;rw[this]
   unfold eh
   simp only[aK,e1,v6,ar c.af.ce i tY,aj,hw,is,If,ww,e2,ar c.io k LS,bw b1,fi',show((0:Int) !=0)=abK from rfl,bw b2];rw[teq,aA b3];rfl
  have ID:=ea.1 ⟨q1.1,q1.2.1,q1.2.2,by rw[hw2,IR];have t1:=congrArg Prod.fst b3;have t2:=congrArg Prod.snd b3;exact aaP t1 (aaP t2 (aaP b2 hw3))⟩;rw[aQ (by unfold eh;simp only[aK,e1,v6,ar c.af.ce i tY,aj,hw,is,If,ww,e2,ar c.io k LS,bw b1,fi',show((0:Int) !=0)=abK from rfl,bw b2,sc,sk];rw[teq,az b3];rfl),ih (i+1) (k+1) (by omega) (by omega) (by omega)];have same:bk c.ii.am c.ci c.ae.bv (c.af.ce.drop i) (c.io.drop k)↔bk c.ii.am c.ci c.ae.bv (c.af.ce.drop (i+1)) (c.io.drop (k+1)):=by
   rw[dr,dk];constructor
   ·intro h2
    obtain⟨d,EB,k1,k2,k3,k4⟩:=h2.1 is;injection k1 with k1 k5;subst k5;exact k4
   intro h2
   exact⟨λ_=>⟨_,_,rfl,b1,ID,h2⟩,λh=>by rw[is]at h;cases h⟩
  simp only[same]
theorem tz{c:aH}(fit:oc c):o6 c=abE (if aT c then 0 else 8):=by
 unfold o6;rw[pA fit.dP,CV,KR,CZ _ fit.ag];simp
 by_cases gZ:bo c.ci
 case neg=>rw[Do gZ,Do (c:=aT c) (λh=>gZ h.gZ)];rfl
 rw[AC gZ]
 by_cases dI:aR c.ii.am
 case neg=>rw[dV (λh=>dI (dM.1 h)),Do (c:=aT c) (λh=>dI h.dI)];rfl
 rw[bw (dM.2 dI)]
 by_cases wF:hM c.af
 case neg=>rw[Do wF,Do (c:=aT c) (λh=>wF h.wF)];rfl
 rw[AC wF];have kn:=aaB c.af dI wF.len;simp only[kn,]
 by_cases known: ∀i,i<abD c.af.ce->kr c.ii.am (c.af.ce[i]!).2
 case neg=>rw[aA known,Do (c:=aT c) (λh=>known h.known)];rfl
 rw[az known]
 by_cases nB:gb c.ae
 case neg=>rw[Do nB,Do (λh=>nB h.nB)];rfl
 rw[AC nB];simp[]
 by_cases w2:(abD c.ae.aC)=200
 case neg=>rw[dV (by omega),Do (λh=>w2 h.Hu)];rfl
 rw[bw (by omega)]
 by_cases hd:(abD c.ae.bv)=abD c.io
 case neg=>rw[dV (by omega),Do (λh=>hd h.hd)];rfl
 have run:=Re fit.dP dI wF nB w2 fit.du known (abD c.af.ce) 0 0 (by omega) (by omega) (by omega);simp_all[aT.iff,]
section
variable {l : List Pt} {t : Int × Int}
theorem bk.lB{H:List Ev}{x:wk}{cs ds:List wk}(h:(bP l x.2 t).2=abF):bk l t H (x::cs) ds↔ ∃d EB,ds=d::EB/\d.1=x.1/\(((bP l x.2 t).1.1,(bP l x.2 t).1.2,x.1,d.2):Ev)∈H/\bk l t H cs EB:=
 ⟨λk=>k.1 h,λk=>⟨λ_=>k,λk'=>(by grind)⟩⟩
theorem bk.kU{H:List Ev}{x:wk}{cs ds:List wk}(h:(bP l x.2 t).2=abK):bk l t H (x::cs) ds↔bk l t H cs ds:=
 ⟨λk=>k.2 h,λk=>⟨λk'=>(by grind),λ_=>k⟩⟩
theorem bk.mono{H H':List Ev}: ∀{cs ds:List wk},(∀x∈cs,∀e:Ev,e.num=x.1->e∈H->e∈H')->bk l t H cs ds->bk l t H' cs ds
 | [],_,_,h=>h
 |x::cs,ds,hm,h=>by
  have Fv: ∀y∈cs,∀e:Ev,e.num=y.1->e∈H->e∈H':=λy hy=>hm y (by simp[hy])
  cases hx:(bP l x.2 t).2 with
  |true=>rw[bk.lB hx]at h ⊢;obtain⟨d,EB,h1,h2,h3,h4⟩:=h;exact⟨d,EB,h1,h2,hm x (by simp) _ rfl h3,bk.mono Fv h4⟩
  |false=>rw[bk.kU hx]at h ⊢;exact bk.mono Fv h
theorem bk.io{H:List Ev}: ∀{cs ds:List wk},bk l t H cs ds-> ∀d∈ds,∃x∈cs,d.1=x.1/\(bP l x.2 t).2=abF/\(((bP l x.2 t).1.1,(bP l x.2 t).1.2,x.1,d.2):Ev)∈H
 | [],ds,h,d,hd=>by
  have:ds=[]:=h
  grind
 |x::cs,ds,h,d,hd=>by
  cases hx:(bP l x.2 t).2 with
  |true=>
   rw[bk.lB hx]at h;obtain⟨e,EB,h1,h2,h3,h4⟩:=h;subst h1;rcases abv.1 hd with rfl|hd
   ·grind
   obtain⟨y,hy,k⟩:=bk.io h4 d hd
   grind
  |false=>
   rw[bk.kU hx]at h;obtain⟨y,hy,k⟩:=bk.io h d hd
   grind
theorem bk.has{H:List Ev}: ∀{cs ds:List wk},bk l t H cs ds-> ∀x∈cs,(bP l x.2 t).2=abF-> ∃d∈ds,d.1=x.1/\(((bP l x.2 t).1.1,(bP l x.2 t).1.2,x.1,d.2):Ev)∈H
 | [],_,_,x,hx,_=>by cases hx
 |y::cs,ds,h,x,hx,hf=>by
  cases hy:(bP l y.2 t).2 with
  |true=>
   rw[bk.lB hy]at h;obtain⟨e,EB,h1,h2,h3,h4⟩:=h;rcases abv.1 hx with rfl|hx
   ·grind
   obtain⟨d,hd,k⟩:=bk.has h4 x hx hf
   grind
  |false=>
   rw[bk.kU hy]at h;rcases abv.1 hx with rfl|hx
   ·grind
   exact bk.has h x hx hf
def Up(cs:List wk):Prop:=cs.Pairwise λx y=>x.1<y.1
theorem xf{cs:List wk}:Up cs↔ ∀i j,i<j->j<abD cs->(cs[i]!).1<(cs[j]!).1:=by
 unfold Up
 grind[List.pairwise_iff_getElem]
theorem bk.up{H:List Ev}: ∀{cs ds:List wk},bk l t H cs ds->Up cs->Up ds
 | [],ds,h,_=>by
  have:ds=[]:=h
  grind
 |x::cs,ds,h,hu=>by
  have HV:=abx.1 hu;cases hx:(bP l x.2 t).2 with
  |true=>
   rw[bk.lB hx]at h;obtain⟨e,EB,h1,h2,h3,h4⟩:=h;subst h1;refine abx.2 ⟨λd hd=>?_,bk.up h4 HV.2⟩
   grind[bk.io]
  |false=>rw[bk.kU hx]at h;exact bk.up h HV.2
theorem bk.snoc{H:List Ev}: ∀{cs ds:List wk} {x:wk},bk l t H cs ds->((bP l x.2 t).2=abK->bk l t H (cs++[x]) ds)/\
 (∀d:wk,(bP l x.2 t).2=abF->d.1=x.1->(((bP l x.2 t).1.1,(bP l x.2 t).1.2,x.1,d.2):Ev)∈H->bk l t H (cs++[x]) (ds++[d]))
 | [],ds,x,h=>by
  have:ds=[]:=h
  grind[bk.kU,bk.lB]
 |y::cs,ds,x,h=>by
  cases hy:(bP l y.2 t).2 with
  |true=>
   rw[bk.lB hy]at h;obtain⟨e,EB,h1,h2,h3,h4⟩:=h;have ih:=bk.snoc (x:=x) h4
   grind[bk.lB]
  |false=>
   rw[bk.kU hy]at h;have ih:=bk.snoc (x:=x) h
   grind[bk.kU]
theorem bk.erase{H:List Ev}: ∀{cs ds:List wk} {i:Nat},bk l t H cs ds->i<abD cs->((bP l (cs[i]!).2 t).2=abK->bk l t H (cs.eraseIdx i) ds)/\
 ((bP l (cs[i]!).2 t).2=abF-> ∃k,k<abD ds/\(ds[k]!).1=(cs[i]!).1/\(((bP l (cs[i]!).2 t).1.1,(bP l (cs[i]!).2 t).1.2,(cs[i]!).1,(ds[k]!).2):Ev)∈H/\bk l t H (cs.eraseIdx i) (ds.eraseIdx k))
 | [],_,i,_,hi=>by cases hi
 |y::cs,ds,0,h,_=>by refine⟨λhy=>(bk.kU hy).1 h,λhy=>?_⟩;obtain⟨e,EB,h1,h2,h3,h4⟩:=(bk.lB hy).1 h;subst h1;exact⟨0,by simp,h2,h3,h4⟩
 |y::cs,ds,i+1,h,hi=>by
  have tY:i<(abD cs):=by simpa using hi
  cases hy:(bP l y.2 t).2 with
  |true=>obtain⟨e,EB,h1,h2,h3,h4⟩:=(bk.lB hy).1 h;subst h1;have ih:=bk.erase h4 tY;refine⟨λhx=>(bk.lB hy).2 ⟨e,EB,rfl,h2,h3,ih.1 hx⟩,λhx=>?_⟩;obtain⟨k,k1,k2,k3,k4⟩:=ih.2 hx;exact⟨k+1,by simp;omega,k2,k3,(bk.lB hy).2 ⟨e,EB.eraseIdx k,rfl,h2,h3,k4⟩⟩
  |false=>
   have h:=(bk.kU hy).1 h;have ih:=bk.erase h tY
   grind[bk.kU]
end
theorem Iq{H:List Ev}{ns:List Int}(hd:ns.Nodup)(hl:(abD H)<=abD ns)(he: ∀n∈ns,∃e∈H,Ev.num e=n): ∀e∈H,Ev.num e∈ns:=by
 have pos: ∀n,n∈ns-> ∃w,w<abD H/\Ev.num H[w]! =n:=λn hn=>by obtain⟨e,he,h2⟩:=he n hn;obtain⟨w,hw,rfl⟩:=aN.1 he;exact⟨w,hw,h2⟩
 let f:=λn=>if h: ∃w,w<abD H/\Ev.num H[w]! =n then h.choose else 0
 have hf: ∀n∈ns,f n<abD H/\Ev.num H[f n]! =n:=λn hn=>by have h:=pos n hn;show(if h: ∃w,w<abD H/\Ev.num H[w]! =n then h.choose else 0)<_/\Ev.num H[(if h: ∃w,w<abD H/\Ev.num H[w]! =n then h.choose else 0)]! =n;rw[dif_pos h];exact h.choose_spec
 have full:=Ij (l:=ns.map f) (DO hd λx hx y hy h=>by
  have h1:=(hf x hx).2;have h2:=(hf y hy).2;rw[h]at h1;omega) (λx hx=>by
  obtain⟨n,hn,rfl⟩:=aai.1 hx;exact(hf n hn).1) (by rw[abz];exact hl)
 intro e hm;obtain⟨w,hw,rfl⟩:=aN.1 hm
 grind
theorem Rf{cs:List wk}(h:Up cs):(cs.map λx=>x.1).Nodup:=by
 refine DO ?_ ?_
 ·unfold Up at h
  exact h.imp λMp he=>by grind
 intro x hx y hy he
 obtain⟨i,hi,rfl⟩:=aN.1 hx;obtain⟨j,hj,rfl⟩:=aN.1 hy;rcases aaQ i j with h1|h1|h1
 ·have:=xf.1 h i j h1 hj;omega
 ·rw[h1]
 have:=xf.1 h j i h1 hi;omega
theorem aT.tB{c:aH}(ok:aT c):Up c.af.ce:=xf.2 ok.wF.up
theorem aT.KT{c:aH}(ok:aT c):Up c.io:=ok.AA.up ok.tB
theorem aT.C0{c:aH}(ok:aT c): ∀e∈c.ae.bv,∃d∈c.io,d.1=Ev.num e:=by
 have:=Iq (H:=c.ae.bv) (Rf ok.KT) (by rw[abz,ok.hd];exact PP _) (λn hn=>by obtain⟨d,hd,rfl⟩:=aai.1 hn;obtain⟨x,hx,h1,h2,h3⟩:=ok.AA.io d hd;exact⟨_,h3,h1.symm⟩)
 grind
end Go.Proofs.YtkdikjnhkfffjaaGreat
