/- Plain laws (2). -/
import Derived.Test.YtbelikaakgedaaaGreatPQM1
open Classical renaming not_not->If
open List renaming length_set->IR,drop_eq_nil_iff->Pc,mem_map->Sw,length_append->Md,set_eq_of_length_le->Xc,drop_length->Ii,filter_eq_self->SI,mem_cons->SH,filter_append->Mp,pairwise_cons->YI,length_take->GH,length_drop->QK,isEmpty_iff->YJ,length_map->Mq,replicate->SJ,set_comm->SK,length->al
open Bool renaming not_true->NE,eq_iff_iff->SG,not_false->EE,true->YF,false->Pg
open Int renaming toNat_natCast->PP
open Nat renaming le_refl->Y,ble_eq_true_of_le->WF,lt_trichotomy->YG,eq_of_beq_eq_true->YH,sub_self->Mg,beq->Sv
open Prod renaming ext->KJ
open Iff renaming rfl->Mi
open Option renaming some->KL
open Decidable renaming decide->D8
namespace Go.Proofs.YtbelikaakgedaaaGreat
open Go.Vm Classical
theorem alK(a:aM)(fit:Fs a)(so:gM a.ai)(wl:(al a.ax)=al a.ai.aC):
 au pA (a.ax,((al a.ax):Int),0,a.ai.aC,a.ai.be,a.ai.bi,a.bv,a.ax)=KL (if(∀i,i<al a.ai.aC->Rv a i)/\(∀k,k<al a.bv->TZ a.bv k)then 0 else 8):=by
 have hu:=so.ul;have hn:=so.n2;have P3:=alJ a.bv a.ai.aC a.ai.bi a.ax a.ai.be fit.hp fit.Wr;have key:=dX (body:=pA) (λi=>(a.ax,((al a.ax):Int),(i:Int),a.ai.aC,a.ai.be,a.ai.bi,a.bv,a.ax)) (al a.ax) (λi=> ¬Rv a i) (e:=if(∀k,k<al a.bv->TZ a.bv k)then 0 else 8) (λi N=>by
  have e1:D8 ((i:Int)<((al a.ax):Int))=YF:=aA (by omega);unfold pA;simp (disch:=omega) only[aB,e1,aq,aj,aN];unfold Rv;generalize a.ax[i]! =w at*;cases hb:a.ai.be[i]! with
  |false=>
   simp only[]
   by_cases hw:w= -1
   ·rw[aY hw]
    exact⟨λh=>absurd ⟨λh=>(by cases h),λ_=>hw⟩ h,λ_=>rfl⟩
   rw[cC hw]
   exact⟨λ_=>rfl,λh=>absurd ((If.1 h).2 trivial) hw⟩
  |true=>
   simp only[]
   by_cases b1:w<0
   ·rw[aA b1]
    exact⟨λ_=>rfl,λh=>absurd ((If.1 h).1 trivial).1 (by omega)⟩
   by_cases b2:((al a.bv):Int)<=w
   ·rw[aF b1,aA b2]
    exact⟨λ_=>rfl,λh=>absurd ((If.1 h).1 trivial).2.1 (by omega)⟩
   rw[aF b1,aF b2];simp (disch:=omega) only[fh,aj]
   by_cases b3:(a.bv[w.toNat]!).2.2.2.1=i
   ·by_cases b4:(a.bv[w.toNat]!).2.2.2.2=a.ai.aC[i]!
    ·rw[ju b3,ju b4]
     exact⟨λh=>absurd ⟨λ_=>⟨by omega,by omega,b3,b4⟩,λh=>(by cases h)⟩ h,λ_=>rfl⟩
    rw[ju b3,hO b4]
    exact⟨λ_=>rfl,λh=>absurd ((If.1 h).1 trivial).2.2.2 b4⟩
   rw[hO b3]
   exact⟨λ_=>rfl,λh=>absurd ((If.1 h).1 trivial).2.2.1 b3⟩) (by
  unfold pA;simp[]
  by_cases X: ∀k,k<al a.bv->TZ a.bv k
  ·rw[Do X];exact P3.1 X
  rw[EQ X];exact P3.2 X)
 grind
theorem mK(a:aM)(fit:Fs a):mT a=KL (if gB a then 0 else 8):=by
 unfold mT;rw[BJ _ fit.fr]
 by_cases so:gM a.ai
 case neg=>rw[EQ so,EQ (λh=>so h.so)];rfl
 have hu:=so.ul;have hn:=so.n2;have hf:=so.fl;rw[Do so];simp
 by_cases wl:(al a.ax)=al a.ai.aC
 case neg=>rw[cC (by omega),EQ (λh=>wl h.wl)];rfl
 rw[aY (by omega)];have e:M d5 (((al a.ai.be):Int) - ((al a.ai.bi):Int))=((al a.ai.aC-(al a.ai.bi):Nat):Int):=by rw[wi];omega
 rw[e]
 by_cases I:(al a.bv)+al a.ai.bi=al a.ai.aC
 case neg=>rw[cC (by omega),EQ (λh=>I h.I)];rfl
 rw[aY (by omega)];simp;rw[alK a fit so wl]
 by_cases ok:gB a
 ·rw[Do ok,Do ok.to]
 rw[EQ ok,EQ]
 intro h;exact ok (gB.of fit so wl I h.1 h.2)
theorem adt{x y:Ev}(X:jo (x.1,x.2.1))(hy:jo (y.1,y.2.1)):fP x y=KL (D8 (less x y)):=by
 unfold fP less;rw[DG X hy]
 grind
theorem aje{s:bg}(ok:gM s)(h:Int×Int):zT s h=KL (D8 (A8 s h)):=by
 have hu:=ok.ul;unfold zT A8
 by_cases a1:0<=h.1
 ·by_cases a2:h.1<al s.aC
  ·simp (disch:=omega) only[fh,]
   grind
  simp[a2]
 simp[a1]
theorem nea(a:aM)(so:gM a.ai):y5 a=KL (D8 (al a.ax=al a.ai.aC/\al a.bv+al a.ai.bi=al a.ai.aC/\ ∀i,i<al a.ai.aC->Rv a i)):=by
 have hu:=so.ul;have hn:=so.n2;have hf:=so.fl;unfold y5;simp only[aB]
 by_cases wl:(al a.ax)=al a.ai.aC
 case neg=>rw[cC (by omega),aF (λh=>wl h.1)];rfl
 rw[aY (by omega)];have e:M d5 (((al a.ai.aC):Int) - ((al a.ai.bi):Int))=((al a.ai.aC-(al a.ai.bi):Nat):Int):=by rw[wi];omega
 rw[e]
 by_cases I:(al a.bv)+al a.ai.bi=al a.ai.aC
 case neg=>rw[cC (by omega),aF (λh=>I h.2.1)];rfl
 have key:=dX (body:=sC) (λi=>(((al a.ai.aC):Int),(i:Int),a.ai.aC,a.ai.be,a.ai.bi,a.bv,a.ax)) (al a.ai.aC) (λi=> ¬Rv a i) (e:=YF) (λi N=>by
  have e1:D8 ((i:Int)<((al a.ai.aC):Int))=YF:=aA (by omega);unfold sC;simp (disch:=omega) only[aB,e1,aq,aj,aN];unfold Rv;generalize a.ax[i]! =w at*;cases hb:a.ai.be[i]! with
  |false=>
   simp only[]
   by_cases hw:w= -1
   ·rw[aY hw]
    exact⟨λh=>absurd ⟨λh=>(by cases h),λ_=>hw⟩ h,λ_=>rfl⟩
   rw[cC hw]
   exact⟨λ_=>rfl,λh=>absurd ((If.1 h).2 trivial) hw⟩
  |true=>
   simp only[]
   by_cases b1:w<0
   ·rw[aA b1]
    exact⟨λ_=>rfl,λh=>absurd ((If.1 h).1 trivial).1 (by omega)⟩
   by_cases b2:((al a.bv):Int)<=w
   ·rw[aF b1,aA b2]
    exact⟨λ_=>rfl,λh=>absurd ((If.1 h).1 trivial).2.1 (by omega)⟩
   rw[aF b1,aF b2];simp (disch:=omega) only[fh,aj]
   by_cases b3:(a.bv[w.toNat]!).2.2.2.1=i
   ·rw[aY b3]
    rw[aje so];have lv:A8 ⟨a.ai.aC,a.ai.be,a.ai.bi⟩ (a.bv[w.toNat]!).2.2.2↔(a.bv[w.toNat]!).2.2.2.2=a.ai.aC[i]!:=by
     unfold A8;dsimp only;rw[b3];constructor
     ·intro h;exact h.2.2.2.symm
     intro h;exact⟨by omega,by omega,by rw[PP];exact hb,by rw[PP];exact h.symm⟩
    simp only[lv]
    by_cases b4:(a.bv[w.toNat]!).2.2.2.2=a.ai.aC[i]!
    ·rw[aA b4]
     exact⟨λh=>absurd ⟨λ_=>⟨by omega,by omega,b3,b4⟩,λh=>(by cases h)⟩ h,λ_=>rfl⟩
    rw[aF b4]
    exact⟨λ_=>rfl,λh=>absurd ((If.1 h).1 trivial).2.2.2 b4⟩
   rw[cC b3]
   exact⟨λ_=>rfl,λh=>absurd ((If.1 h).1 trivial).2.2.1 b3⟩) (by
  unfold sC;have:D8 (((al a.ai.aC):Int)<((al a.ai.aC):Int))=Pg:=aF (by omega);simp)
 grind[aA,aF]
theorem tkL(H:J Ev)(u fr W:J Int)(us:J Bool)(k:Nat)(hk:k<al H)(I:(al H)<=1000000)(x:Ev):
 ((∃j,j<k/\(H[j]!).2.2.1=x.2.2.1)->au qG ((k:Int),0,u,us,fr,H,W,x)=KL (.done 8))/\
 ((∀j,j<k-> ¬(H[j]!).2.2.1=x.2.2.1)->au qG ((k:Int),0,u,us,fr,H,W,x)=KL (.next (((k+1:Nat):Int),u,us,fr,H,W))):=by
 refine dX (λj=>((k:Int),(j:Int),u,us,fr,H,W,x)) k (λj=>(H[j]!).2.2.1=x.2.2.1) (λj hj=>?_) ?_
 ·have e1:=aA (by omega)
  unfold qG;simp (disch:=omega) only[aq,aN]
  grind
 unfold qG
 have:D8 ((k:Int)<(k:Int))=Pg:=aF (by omega);simp (disch:=omega) only[this,AC,aN]
theorem aem(H:J Ev)(u fr W:J Int)(us:J Bool)(I:(al H)<=1000000)(dK: ∀w,w<al H->jo ((H[w]!).1,(H[w]!).2.1)):
 au oz (1,u,us,fr,H,W)=KL (.done (if∀k,0<k->k<al H-> ¬less H[k]! H[(k-1) / 2]! then 0 else 8)):=by
 by_cases h0:(al H)=0
 ·rw[Do (λk _ hk=>by omega)]
  refine ar ?_;unfold oz;have:D8 ((1:Int)<((al H):Int))=Pg:=aF (by omega);simp[this,]
 have key:=dX (body:=oz) (λi=>(((i+1:Nat):Int),u,us,fr,H,W)) (al H-1) (λi=>less H[i+1]! H[i / 2]!) (e:= .done 0) (λi N=>by
  have e1:D8 (((i+1:Nat):Int)<((al H):Int))=YF:=aA (by omega);unfold oz;simp (disch:=omega) only[aB,e1,yq,aq,aj,adt (dK (i+1) (by omega)) (dK (i / 2) (by omega)),aN];constructor
  ·intro h;rw[aA h];rfl
  ·intro h;rw[aF h];rfl) (by
  unfold oz;have:D8 (((al H-1+1:Nat):Int)<((al H):Int))=Pg:=aF (by omega);simp only[aB,this,AC])
 by_cases ho: ∀k,0<k->k<al H-> ¬less H[k]! H[(k-1) / 2]!
 ·rw[Do ho]
  refine key.2 λi N hc=>ho (i+1) (by omega) (by omega) ?_
  rwa [show(i+1-1) / 2=i / 2 by omega]
 grind
def adu(H:J Ev)(k:Nat):Prop:=bI ((H[k]!).1,(H[k]!).2.1)/\0<=(H[k]!).2.2.1/\(H[k]!).2.2.1<=1000000/\(∀j,j<k-> ¬(H[j]!).2.2.1=(H[k]!).2.2.1)
theorem hw0(a:aM)(fit:Fs a):xY a=KL (if gB a then 0 else 8):=by
 have hh:=fit.hp;unfold xY;rw[hqe _ fit.fr]
 by_cases so:gM a.ai
 case neg=>rw[EQ so,EQ (λh=>so h.so)];rfl
 rw[Do so];simp only[nea a so]
 by_cases pl:(al a.ax)=al a.ai.aC/\al a.bv+al a.ai.bi=al a.ai.aC/\ ∀i,i<al a.ai.aC->Rv a i
 case neg=>rw[aF pl,EQ (λh=>pl ⟨h.wl,h.I,h.to.1⟩)];rfl
 obtain⟨wl,I,hw⟩:=pl;simp;have key:=dX (body:=vu) (λk=>((k:Int),a.ai.aC,a.ai.be,a.ai.bi,a.bv,a.ax)) (al a.bv) (λk=> ¬adu a.bv k) (λk hk=>by
  have e1:D8 ((k:Int)<((al a.bv):Int))=YF:=aA (by omega);have l1:=tkL a.bv a.ai.aC a.ai.bi a.ax a.ai.be k hk hh a.bv[k]!;unfold vu;simp only[aB,e1,aq a.bv k hk,aj,jL (fit.Wr k hk)]
  by_cases b1:bI ((a.bv[k]!).1,(a.bv[k]!).2.1)
  case neg=>rw[EQ b1];exact⟨λ_=>rfl,λh=>absurd (If.1 h).1 b1⟩
  rw[Do b1]
  by_cases b2:(a.bv[k]!).2.2.1<0
  ·rw[aA b2]
   exact⟨λ_=>rfl,λh=>absurd (If.1 h).2.1 (by omega)⟩
  by_cases b3:1000000<(a.bv[k]!).2.2.1
  ·rw[aF b2,aA b3]
   exact⟨λ_=>rfl,λh=>absurd (If.1 h).2.2.1 (by omega)⟩
  rw[aF b2,aF b3]
  by_cases b4: ∃j,j<k/\(a.bv[j]!).2.2.1=(a.bv[k]!).2.2.1
  ·refine⟨λ_=>l1.1 b4,λh=>?_⟩
   obtain⟨j,j1,j2⟩:=b4;exact absurd j2 ((If.1 h).2.2.2 j j1)
  ·have NM:=λj D S=>b4 ⟨j,D,S⟩
   exact⟨λh=>absurd ⟨b1,by omega,by omega,NM⟩ h,λ_=>l1.2 NM⟩) (by
  unfold vu;simp[];exact aem a.bv _ _ _ _ hh fit.Wr)
 have same:gB a↔(∀k,k<al a.bv->adu a.bv k)/\ ∀k,0<k->k<al a.bv-> ¬less a.bv[k]! a.bv[(k-1) / 2]!:=by
  constructor
  ·intro ok
   refine⟨λk hk=>?_,ok.ord⟩;have:=ok.to.2 k hk;exact⟨this.1,this.2.1,this.2.2.1,this.2.2.2.1⟩
  rintro⟨D,S⟩
  refine gB.of fit so wl I hw λk hk=>?_
  obtain⟨c1,c2,c3,c4⟩:=D k hk;refine⟨c1,c2,c3,c4,λk0=>?_⟩;unfold Ws;rw[Do ⟨c1,(D ((k-1) / 2) (by omega)).1⟩,I1];exact S k k0 hk
 grind
theorem hld{l:J Ev}{n:Nat}{e:Ev}(hn:n<=al l):e∈l.take n↔ ∃w,w<n/\l[w]! =e:=by
 grind[cN]
theorem aiJ{s:bg}(so:gM s){n:Nat}{H:J Ev}{W:J Int}(E:Ev->Prop)(hn:n<=al H)(wl:(al W)=al s.aC)(I:n+al s.bi=al s.aC)
 (ix: ∀w,w<n->0<=(H[w]!).ix/\(H[w]!).ix<al W/\W[(H[w]!).n]! =(w:Int)) (mem: ∀e,(∃w,w<n/\H[w]! =e)↔E e) (ord: ∀k,0<k->k<n-> ¬less H[k]! H[(k-1) / 2]!)
 (ue: ∀i,i<al s.aC->s.be[i]! =YF-> ∃e:Ev,E e/\e.ix=i/\e.2.2.2.2=s.aC[i]!) (un: ∀i,i<al s.aC->s.be[i]! =Pg->W[i]! = -1)
 (ev: ∀e,E e->wW e) (GD: ∀e f:Ev,E e->E f->e.num=f.num->e.ix=f.ix):gB ⟨s,H.take n,W⟩:=by
 have len:(H.take n).length=n:=by rw[GH];omega
 have cell: ∀w,w<n->(H.take n)[w]! =H[w]!:=λw hw=>rz hw
 refine⟨so,wl,by grind,?_,un,?_,?_,?_⟩
 ·intro i N hu
  dsimp only at N hu ⊢;rw[len];obtain⟨e,he,e1,e2⟩:=ue i N hu;obtain⟨w,hw,rfl⟩:=(mem e).2 he;obtain⟨a1,a2,a3⟩:=ix w hw;have T1:(H[w]!).n=i:=by show((H[w]!).ix).toNat=i;omega
  rw[T1]at a3;rw[a3,PP,cell w hw];exact⟨by omega,by omega,e1,e2⟩
 ·intro w hw
  dsimp only at hw ⊢;rw[len]at hw;rw[cell w hw];exact ev _ ((mem _).1 ⟨w,hw,rfl⟩)
 ·intro v w hv hw
  rw[len]at hw;rw[cell v (by omega),cell w hw];intro hc;have:=GD _ _ ((mem _).1 ⟨v,by omega,rfl⟩) ((mem _).1 ⟨w,hw,rfl⟩) hc;obtain⟨a1,a2,a3⟩:=ix v (by omega);obtain⟨b1,b2,b3⟩:=ix w hw;have T1:(H[v]!).n=(H[w]!).n:=by show((H[v]!).ix).toNat=((H[w]!).ix).toNat;rw[this]
  rw[T1]at a3;omega
 intro k k0 hk
 rw[len]at hk;rw[cell k hk,cell _ (by omega)];exact ord k k0 hk
theorem BL{s:bg}(so:gM s){n:Nat}{x:Ev}{B4:Ev->Prop}{K:Nat->Prop}{H H1:J Ev}{W W1:J Int}(st:Gn n x B4 K H W H1 W1)(hn:n<=al H)(wl:(al W)=al s.aC)(I:n+al s.bi=al s.aC)
 (ue: ∀i,i<al s.aC->s.be[i]! =YF-> ∃e:Ev,(e=x\/B4 e)/\e.ix=i/\e.2.2.2.2=s.aC[i]!) (un: ∀i,i<al s.aC->s.be[i]! =Pg->K i/\W[i]! = -1)
 (ev: ∀e,(e=x\/B4 e)->wW e) (GD: ∀e f:Ev,(e=x\/B4 e)->(f=x\/B4 f)->e.num=f.num->e.ix=f.ix):gB ⟨s,H1.take n,W1⟩:=by
 refine aiJ so (λe=>e=x\/B4 e) (by rw[st.I];exact hn) (by rw[st.wl];exact wl) I (by rw[st.wl];exact st.ix) st.mem st.ord ue ?_ ev GD;intro i N hu;rw[st.out i (un i N hu).1]
 grind
theorem gB.bd{a:aM}(ok:gB a):(al a.bv)<=200/\al a.ax<=200:=by have:=ok.I;have:=ok.wl;have:=ok.so.n2;omega
theorem gB.cells{a:aM}(ok:gB a):qT (al a.bv) a.bv a.ax:=by have:=ok.bd;refine⟨Y _,by omega,λw hw=>?_⟩;obtain⟨b1,b2,b3,b4,b5⟩:=ok.back hw;exact⟨ok.ev w hw,b1,by rw[ok.wl];exact b2⟩
theorem gB.inj{a:aM}(ok:gB a){v w:Nat}(hv:v<al a.bv)(hw:w<al a.bv)(h:Ev.ix a.bv[v]! =Ev.ix a.bv[w]!):v=w:=by
 have D:=(ok.back hv).2.2.2.2;have S:=(ok.back hw).2.2.2.2
 grind
theorem gB.TR{a:aM}(ok:gB a){i k:Nat}(i0:0<i)(k0:0<k)(hk:k<al a.bv)(hp:(k-1) / 2=i): ¬less a.bv[k]! a.bv[(i-1) / 2]!:=by have D:=ok.ord k k0 hk;rw[hp]at D;exact Cv (ok.ev _ (by omega)).den (ok.ev _ (by omega)).den (ok.ev _ hk).den (ok.ord i i0 (by omega)) D
theorem gB.live{a:aM}(ok:gB a){h:Int×Int}(lv:A8 a.ai h): ∃i,i<al a.bv/\a.ax[h.1.toNat]! =(i:Int)/\(a.bv[i]!).2.2.2=h:=by
 obtain⟨l1,l2,l3,l4⟩:=lv;obtain⟨f1,f2,f3,f4⟩:=ok.fwd h.1.toNat (by omega) l3
 grind
theorem gB.handle{a:aM}(ok:gB a){i:Nat}(N:i<al a.bv):A8 a.ai (a.bv[i]!).2.2.2/\a.ax[((a.bv[i]!).2.2.2.1).toNat]! =(i:Int):=by obtain⟨b1,b2,b3,b4,b5⟩:=ok.back N;exact⟨⟨b1,b2,b3,b4⟩,b5⟩
theorem gB.LU{a:aM}(ok:gB a){i:Nat}(N:i<al a.ai.aC)(hu:a.ai.be[i]! =YF): ∃w,w<al a.bv/\Ev.ix a.bv[w]! =i/\(a.bv[w]!).2.2.2.2=a.ai.aC[i]!:=by
 obtain⟨f1,f2,f3,f4⟩:=ok.fwd i N hu
 grind
theorem gB.T2{a:aM}(ok:gB a){i:Nat}(hu:a.ai.be[i]! =Pg){w:Nat}(hw:w<al a.bv):Ev.n a.bv[w]!≠i:=by
 have:=(ok.back hw).2.2.1
 grind
theorem gB.GD{a:aM}(ok:gB a){v w:Nat}(hv:v<al a.bv)(hw:w<al a.bv)(h:Ev.num a.bv[v]! =Ev.num a.bv[w]!):v=w:=by
 rcases YG v w with D|D|D
 ·exact absurd h (ok.nd v w D hw)
 ·exact D
 exact absurd h.symm (ok.nd w v D hv)
theorem ij{α:Type}[Inhabited α]{l:J α}{k:Nat}{v:α}(h:l[k]! =v):l.set k v=l:=by
 grind[nj,IR,bQ,Xc]
def BM(x:Ev)(t:Int×Int):Ev:=(t.1,t.2,x.2.2)
noncomputable def p6(a:aM)(i:Nat)(t:Int×Int):aM:=⟨a.ai,(eB (al a.bv) (BM a.bv[i]! t) i a.bv a.ax).1,(eB (al a.bv) (BM a.bv[i]! t) i a.bv a.ax).2⟩
theorem NL{a:aM}(ok:gB a){i:Nat}(N:i<al a.bv){t:Int×Int}(ht:bI t)(Ph:jo t):wW (BM a.bv[i]! t):=by have:=ok.ev i N;exact⟨ht,Ph,this.2.2.1,this.2.2.2⟩
theorem hsd{a:aM}(ok:gB a){i:Nat}(N:i<al a.bv)(t:Int×Int):HO (al a.bv) (BM a.bv[i]! t) (λe=> ∃w,w<al a.bv/\w≠i/\a.bv[w]! =e) a.bv a.ax i:=by obtain⟨b1,b2,b3,b4,b5⟩:=ok.back N;refine⟨N,Y _,λw hw ZS=>?_,b1,by rw[ok.wl];exact b2,λe=>Mi⟩;obtain⟨c1,c2,c3,c4,c5⟩:=ok.back hw;exact⟨c1,by rw[ok.wl];exact c2,c5,λh=>ZS (ok.inj hw N h)⟩
theorem aa9{a:aM}(ok:gB a)(i:Nat):Ord (al a.bv) a.bv i:=
 ⟨λw hw=>(ok.ev w hw).den,λk k0 hk _ _=>ok.ord k k0 hk,λi0 _k k0 hk hp=>ok.TR i0 k0 hk hp⟩
theorem xD{a:aM}(ok:gB a){i:Nat}(N:i<al a.bv){t:Int×Int}(ht:bI t):
 Gn (al a.bv) (BM a.bv[i]! t) (λe=> ∃w,w<al a.bv/\w≠i/\a.bv[w]! =e) (λk=>k≠Ev.n (BM a.bv[i]! t)/\ ∀w,w<al a.bv->w≠i->Ev.n a.bv[w]!≠k) a.bv a.ax (p6 a i t).bv (p6 a i t).ax:=
 Fo ht.1 (hsd ok N t) (aa9 ok i)
theorem Km{a:aM}(ok:gB a){i:Nat}(N:i<al a.bv){t:Int×Int}(ht:bI t):(p6 a i t).bv.length=al a.bv/\(p6 a i t).ax.length=(al a.ax):=
 ⟨(xD ok N ht).I,(xD ok N ht).wl⟩
theorem rnA{a:aM}(ok:gB a){i:Nat}(N:i<al a.bv){t:Int×Int}(ht:bI t)(e:Ev):e∈(p6 a i t).bv↔(e=BM a.bv[i]! t\/(e∈a.bv/\e≠a.bv[i]!)):=by
 have st:=xD ok N ht;have D:e∈(p6 a i t).bv↔ ∃w,w<al a.bv/\((p6 a i t).bv)[w]! =e:=by rw[aU,(Km ok N ht).1]
 rw[D];refine(st.mem e).trans ?_;constructor
 ·rintro(h|⟨w,hw,ZS,rfl⟩)
  ·exact .inl h
  exact .inr ⟨aJ hw,λh=>ZS (ok.inj hw N (by rw[h]))⟩
 rintro(h|⟨h,fk⟩)
 ·exact .inl h
 obtain⟨w,hw,rfl⟩:=aU.1 h
 grind
theorem adw{a:aM}(ok:gB a){i:Nat}(N:i<al a.bv){t:Int×Int}(ht:bI t)(Ph:jo t):gB (p6 a i t):=by
 have st:=xD ok N ht;have len:=(Km ok N ht).1;have key:=BL ok.so st (Y _) ok.wl ok.I (λj hj hu=>by
  obtain⟨w,hw,e1,e2⟩:=ok.LU hj hu
  by_cases e:w=i
  ·subst e;exact⟨BM a.bv[w]! t,.inl rfl,e1,e2⟩
  ·exact⟨a.bv[w]!,.inr ⟨w,hw,e,rfl⟩,e1,e2⟩) (λj hj hu=>⟨⟨(ok.T2 hu N).symm,λw hw _=>ok.T2 hu hw⟩,ok.un j hj hu⟩) (by
  rintro e (rfl|⟨w,hw,_,rfl⟩)
  ·exact NL ok N ht Ph
  ·exact ok.ev w hw) (by
  rintro e f (rfl|⟨v,hv,hvi,rfl⟩) (rfl|⟨w,hw,ZS,rfl⟩) he
  ·rfl
  ·exact absurd (ok.GD N hw he).symm ZS
  ·exact absurd (ok.GD hv N he) hvi
  rw[ok.GD hv hw he])
 show gB ⟨a.ai,(p6 a i t).bv,(p6 a i t).ax⟩
 grind
theorem hbd{a:aM}(ok:gB a)(fit:Fs a){h:Int×Int}{i:Nat}(N:i<al a.bv)(hh:(a.bv[i]!).2.2.2=h):u7 a h=KL ((i:Int),0):=by
 obtain⟨lv,wv⟩:=ok.handle N;unfold u7;rw[mK a fit,Do ok];simp[hMC ok.so,];have:=lv.2.1;have:=lv.1;have:=ok.wl
 grind[fh]
theorem aen{a:aM}(ok:gB a)(fit:Fs a){h t:Int×Int}{i:Nat}(N:i<al a.bv)(hh:(a.bv[i]!).2.2.2=h)(ht:bI t)(Ph:jo t):yY a h t=KL (p6 a i t,0):=by
 have bd:=ok.bd;obtain⟨b1,b2,b3,b4,b5⟩:=ok.back N;unfold yY;rw[mK a fit,Do ok,bR Ph,Do ht];have pl:=hbd ok fit N hh;have se:=ajb (u:=a.ai.aC) (us:=a.ai.be) (fr:=a.ai.bi) (NL ok N ht Ph) (b1) ok.cells rfl N (by rw[ok.wl];exact b2);have W4:gF (a.ai.aC,a.ai.be,a.ai.bi,(i:Int),t.1,t.2,(a.bv[i]!).2.2.1,(a.bv[i]!).2.2.2.1,(a.bv[i]!).2.2.2.2,a.bv,a.ax)=KL _:=se;simp (disch:=omega) only[aj,pl,bJ,aq a.bv i N,W4];rfl
theorem xE{a:aM}(ok:gB a):oX a=KL a:=by have bd:=ok.bd;unfold oX;simp (disch:=omega) only[BK ok.so,aj,bJ]
theorem rnR{a:aM}(ok:gB a){h t:Int×Int}{i:Nat}(N:i<al a.bv)(hh:(a.bv[i]!).2.2.2=h)(ht:bI t)(Ph:jo t):xA a h t=KL (p6 a i t):=by
 have bd:=ok.bd;obtain⟨b1,b2,b3,b4,b5⟩:=ok.back N;obtain⟨lv,wv⟩:=ok.handle N;have X:=NL ok N ht Ph;have x1:Ev.ix (BM a.bv[i]! t)<(al a.ax):=by rw[ok.wl];exact b2
 obtain⟨j,H1,W1,e1,e3,e4,e5,e6,e7,e8,e9,Ys⟩:=LQ ht.1 i a.bv a.ax (hsd ok N t) (aa9 ok i);have w1:a.ax.set (Ev.n (BM a.bv[i]! t)) _=a.ax:=ij b5;unfold xA;rw[xE ok];have g1:az a.ax h.1=KL (i:Int):=by
  have e:(a.bv[i]!).2.2.2.1=h.1:=by rw[hh]
  rw[fh (by grind) (by rw[<-e,ok.wl];exact b2),<-e,wv]
 have u1:vE ((i:Int),a.ai.aC,a.ai.be,a.ai.bi,a.bv.set i (BM a.bv[i]! t),a.ax)=KL ((j:Int),a.ai.aC,a.ai.be,a.ai.bi,H1.set j (BM a.bv[i]! t),W1.set (Ev.n (BM a.bv[i]! t)) (j:Int)):=by
  unfold vE;have:=adq (c0:=((i:Int),a.ai.aC,a.ai.be,a.ai.bi,a.bv.set i (BM a.bv[i]! t),a.ax)) X b1 rfl rfl rfl i a.bv a.ax ok.cells N rfl x1 IR rfl
  grind
 have Wt:qT (al a.bv) H1 W1:=by refine⟨by omega,by omega,λw hw=>?_⟩;exact⟨(Fq ok.cells N e1 w hw).1,(Fq ok.cells N e1 w hw).2.1,by rw[e6];exact(Fq ok.cells N e1 w hw).2.2⟩
 have d1:rq ((j:Int),a.ai.aC,a.ai.be,a.ai.bi,H1.set j (BM a.bv[i]! t),W1.set (Ev.n (BM a.bv[i]! t)) (j:Int))=KL (a.ai.aC,a.ai.be,a.ai.bi,(eB (al a.bv) (BM a.bv[i]! t) i a.bv a.ax).1,(eB (al a.bv) (BM a.bv[i]! t) i a.bv a.ax).2):=by
  unfold rq;have:=hdc (c0:=((j:Int),a.ai.aC,a.ai.be,a.ai.bi,H1.set j (BM a.bv[i]! t),W1.set (Ev.n (BM a.bv[i]! t)) (j:Int))) X b1 rfl rfl rfl (al a.bv) j H1 W1 (by omega) Wt e3.lt e5 (by omega) IR IR;rw[this];unfold eB;rw[e1]
 have s1:bu a.bv (i:Int) (t.1,t.2,(a.bv[i]!).2.2)=a.bv.set i (BM a.bv[i]! t):=rfl;simp only[aj,g1,aq a.bv i N,s1,u1,d1];rfl
theorem hs1(H:J Ev)(n:Int)(I:(al H)<=1000000):dC H n=KL (D8 (∃w,w<al H/\(H[w]!).2.2.1=n)):=by
 unfold dC gg;have key:=jK (body:=dB) (λi=>(H,n,((al H):Int),(i:Int))) (al H) (λi=>(H[i]!).2.2.1=n) (λi=>(i:Int)) (e:= -1) (λi N=>by
  have e1:D8 ((i:Int)<((al H):Int))=YF:=aA (by omega);unfold dB BB;simp (disch:=omega) only[e1,aq H i N,aj,aN];constructor
  ·intro h;rw[ju h];rfl
  ·intro h;rw[hO h];rfl) (by
  unfold dB;simp)
 rw[aB]
 by_cases X: ∃w,w<al H/\(H[w]!).2.2.1=n
 ·obtain⟨k,D,S,h3⟩:=least X
  have:=key.1 k D S h3;rw[show((0:Nat):Int)=0 from rfl]at this;rw[this,aA X];simp (disch:=omega) only[aj,aA]
 simp_all
noncomputable def hY(a:aM)(t:Int×Int)(n:Int):Ev:=(t.1,t.2,n,o8 a.ai)
noncomputable def rO(a:aM)(t:Int×Int)(n:Int):aM:=
 ⟨jN a.ai,(eB (al a.bv+1) (hY a t n) (al a.bv) (a.bv++[hY a t n]) a.ax).1,(eB (al a.bv+1) (hY a t n) (al a.bv) (a.bv++[hY a t n]) a.ax).2⟩
section
variable {a : aM} (ok : gB a) (op : Ea a.ai) {t : Int × Int} (ht : bI t) (Ph : jo t) {n : Int} (n0 : 0 <= n) (n1 : n <= 1000000)
include ok op
theorem I3:Ev.ix (hY a t n)=(mn a.ai:Int)/\mn a.ai<al a.ai.aC/\a.ai.be[mn a.ai]! =Pg/\al a.ai.bi=(jN a.ai).bi.length+1:=by
 obtain⟨D,S,h3⟩:=Gm ok.so op.1;refine⟨rfl,D,?_,?_⟩
 ·have:=ok.so.uf _ D
  grind
 show _=(a.ai.bi.take _).length+1
 grind
theorem hji:HO (al a.bv+1) (hY a t n) (λe=>e∈a.bv) (a.bv++[hY a t n]) a.ax (al a.bv):=by
 obtain⟨D,S,h3,h4⟩:=I3 ok op;have cell: ∀w,w<al a.bv->(a.bv++[hY a t n])[w]! =a.bv[w]!:=λw hw=>jx hw
 refine⟨by omega,by simp,λw hw ZS=>?_,by rw[D];omega,by rw[D,ok.wl];omega,λe=>?_⟩
 ·have Vx:w<(al a.bv):=by omega
  rw[cell w Vx];obtain⟨c1,c2,c3,c4,c5⟩:=ok.back Vx;refine⟨c1,by rw[ok.wl];exact c2,c5,λh=>?_⟩
  grind
 constructor
 ·grind
 intro h
 obtain⟨w,hw,rfl⟩:=aU.1 h
 grind
theorem ajg(ht:bI t):Ord (al a.bv+1) (a.bv++[hY a t n]) (al a.bv):=by
 have:=op
 have cell: ∀w,w<al a.bv->(a.bv++[hY a t n])[w]! =a.bv[w]!:=λw hw=>jx hw
 refine⟨λw hw=>?_,λk k0 hk k1 k2=>?_,λi0 k k0 hk hp=>by omega⟩
 ·by_cases h:w<al a.bv
  ·rw[cell w h];exact(ok.ev w h).den
  have:w=(al a.bv):=by omega
  subst this;rw[zZ (Y _),Mg];exact ht.1
 rw[cell k (by omega),cell _ (by omega)]
 exact ok.ord k k0 (by omega)
theorem DJ(ht:bI t):Gn (al a.bv+1) (hY a t n) (λe=>e∈a.bv) (λk=>k≠Ev.n (hY a t n)/\ ∀w,w<al a.bv+1->w≠al a.bv->Ev.n (a.bv++[hY a t n])[w]!≠k) (a.bv++[hY a t n]) a.ax (rO a t n).bv (rO a t n).ax:=
 Fo ht.1 (hji ok op) (ajg ok op ht)
theorem I4(ht:bI t):(rO a t n).bv.length=al a.bv+1:=by have:=(DJ (n:=n) ok op ht).I;rw[this];simp
theorem ajh(ht:bI t)(e:Ev):e∈(rO a t n).bv↔(e=hY a t n\/e∈a.bv):=by have st:=DJ (n:=n) ok op ht;rw[aU,I4 ok op ht];exact st.mem e
theorem Ry(ht:bI t)(Ph:jo t)(n0:0<=n)(n1:n<=1000000):wW (hY a t n):=by have:=ok;have:=op;exact⟨ht,Ph,n0,n1⟩
theorem aji(ht:bI t)(Ph:jo t)(n0:0<=n)(n1:n<=1000000)(nn: ∀e∈a.bv,Ev.num e≠n):gB (rO a t n):=by
 have st:=DJ (n:=n) ok op ht;have len:=I4 (n:=n) ok op ht;obtain⟨D,S,h3,h4⟩:=I3 ok op;have hu:=ok.so.ul;have ul:(jN a.ai).aC.length=(al a.ai.aC):=IR;have key:=BL (adn ok.so op) st (by simp) (by rw[ul];exact ok.wl) (by rw[ul];have:=ok.I;omega) (λj hj KQ=>by
  rw[ul]at hj;change (a.ai.be.set _ YF)[j]! =YF at KQ;rw[bQ]at KQ;show∃e:Ev,_/\_/\_=(a.ai.aC.set _ _)[j]!;rw[bQ]
  by_cases e:j=mn a.ai
  ·rw[Do ⟨e,S⟩]
   exact⟨hY a t n,.inl rfl,by rw[D,e],rfl⟩
  ·rw[EQ (λk=>e k.1)]
   rw[EQ (λk=>e k.1)]at KQ;obtain⟨w,hw,e1,e2⟩:=ok.LU hj KQ;exact⟨a.bv[w]!,.inr (aJ hw),e1,e2⟩) (λj hj KQ=>by
  rw[ul]at hj;change (a.ai.be.set _ YF)[j]! =Pg at KQ;rw[bQ]at KQ
  by_cases e:j=mn a.ai
  ·rw[Do ⟨e,by omega⟩]at KQ;cases KQ
  ·rw[EQ (λk=>e k.1)]at KQ
   refine⟨⟨?_,λw hw ZS=>?_⟩,ok.un j hj KQ⟩
   ·show j≠(Ev.ix _).toNat
    omega
   rw[jx (by omega)]
   exact ok.T2 KQ (by omega)) (by
  rintro e (rfl|h)
  ·exact Ry ok op ht Ph n0 n1
  ·obtain⟨w,hw,rfl⟩:=aU.1 h
   exact ok.ev w hw) (by
  rintro e f (rfl|he) (rfl|hf) hn
  ·rfl
  ·exact absurd hn.symm (nn f hf)
  ·exact absurd hn (nn e he)
  obtain⟨v,hv,rfl⟩:=aU.1 he
  obtain⟨w,hw,rfl⟩:=aU.1 hf;rw[ok.GD hv hw hn])
 show gB ⟨jN a.ai,(rO a t n).bv,(rO a t n).ax⟩
 grind
theorem her(ht:bI t)(Ph:jo t)(n0:0<=n)(n1:n<=1000000):qT (al a.bv+1) (a.bv++[hY a t n]) a.ax:=by
 have bd:=ok.bd;obtain⟨D,S,h3,h4⟩:=I3 (t:=t) (n:=n) ok op;refine⟨by simp,by simp;omega,λw hw=>?_⟩
 by_cases h:w<al a.bv
 ·rw[jx h];exact ok.cells.ev w h
 have:w=(al a.bv):=by omega
 subst this;rw[zZ (Y _),Mg];exact⟨Ry ok op ht Ph n0 n1,by grind,by show Ev.ix (hY a t n)<_;rw[ok.wl];omega⟩
theorem ae6(fit:Fs a)(ht:bI t)(Ph:jo t)(n0:0<=n)(n1:n<=1000000)(nn: ∀e∈a.bv,Ev.num e≠n):oO a t n=KL (rO a t n,o8 a.ai,0):=by
 have bd:=ok.bd;obtain⟨D,S,h3,h4⟩:=I3 (t:=t) (n:=n) ok op;have hn: ¬ ∃w,w<al a.bv/\(a.bv[w]!).2.2.1=n:=by
  grind
 unfold oO;rw[mK a fit,Do ok,bR Ph,Do ht,hs1 _ _ (by omega),aF hn,aa5 ok.so,Do op];have se:=ajb (u:=(jN a.ai).aC) (us:=(jN a.ai).be) (fr:=(jN a.ai).bi) (Ry ok op ht Ph n0 n1) (by omega) (her ok op ht Ph n0 n1) (by simp) (show(al a.bv)<al a.bv+1 by omega) (by rw[ok.wl];omega);have e1:M d5 (((a.bv++[hY a t n]).length:Int)-1)=((al a.bv):Int):=by rw[wi,Md];simp;omega
 have ap:aQ a.bv [(t.1,t.2,n,o8 a.ai)]=KL (a.bv++[hY a t n]):=ba (by simp;omega);have W4:gF ((jN a.ai).aC,(jN a.ai).be,(jN a.ai).bi,((al a.bv):Int),t.1,t.2,n,(o8 a.ai).1,(o8 a.ai).2,a.bv++[hY a t n],a.ax)=KL _:=se;simp (disch:=omega) only[aj,aF,bJ,ap,aB,e1,W4];rfl
theorem hmo(ht:bI t)(Ph:jo t)(n0:0<=n)(n1:n<=1000000):gx a t n=KL (rO a t n,o8 a.ai):=by
 have bd:=ok.bd;obtain⟨D,S,h3,h4⟩:=I3 (t:=t) (n:=n) ok op;unfold gx;rw[xE ok];have e1:M d5 (((a.bv++[hY a t n]).length:Int)-1)=((al a.bv):Int):=by rw[wi,Md];simp;omega
 have ap:aQ a.bv [(t.1,t.2,n,o8 a.ai)]=KL (a.bv++[hY a t n]):=ba (by simp;omega);have X:=Ry ok op ht Ph n0 n1;have last:eB _ _ (al a.bv) (a.bv++[hY a t n]) a.ax=_:=alD ht.1 (hji ok op) (ajg ok op ht) (λk k0 hk hp=>by omega);have ws:bu a.ax (o8 a.ai).1 _=a.ax.set (Ev.n (hY a t n)) ((al a.bv):Int):=rfl
 have u1:vF ((jN a.ai).aC,(jN a.ai).be,(jN a.ai).bi,((al a.bv):Int),a.bv++[hY a t n],a.ax.set (Ev.n (hY a t n)) ((al a.bv):Int))=KL (((mJ (hY a t n) (al a.bv) (a.bv++[hY a t n]) a.ax).1:Int),(mJ (hY a t n) (al a.bv) (a.bv++[hY a t n]) a.ax).2.1.set (mJ (hY a t n) (al a.bv) (a.bv++[hY a t n]) a.ax).1 (hY a t n),(mJ (hY a t n) (al a.bv) (a.bv++[hY a t n]) a.ax).2.2.set (Ev.n (hY a t n)) ((mJ (hY a t n) (al a.bv) (a.bv++[hY a t n]) a.ax).1:Int)):=by
  unfold vF;have:=ads (c0:=((jN a.ai).aC,(jN a.ai).be,(jN a.ai).bi,((al a.bv):Int),a.bv++[hY a t n],a.ax.set (Ev.n (hY a t n)) ((al a.bv):Int))) (u:=(jN a.ai).aC) (us:=(jN a.ai).be) (fr:=(jN a.ai).bi) X (by omega) (al a.bv) _ a.ax (her ok op ht Ph n0 n1) (by omega) (by simp) (by rw[ok.wl];omega) rfl IR
  grind
 have g1:az a.ax (o8 a.ai).1=KL a.ax[mn a.ai]!:=aq a.ax _ (by rw[ok.wl];exact S);simp only[aj,ckN ok.so op,ap,g1,aB,e1,ws,u1];unfold rO;rw[last]
end
theorem hnt{a:aM}(ok:gB a)(op: ¬Ea a.ai)(fit:Fs a){t:Int×Int}(ht:bI t)(Ph:jo t){n:Int}(n0:0<=n)(n1:n<=1000000)(nn: ∀e∈a.bv,Ev.num e≠n):oO a t n=KL (⟨⟨[],[],[]⟩,[],[]⟩,(0,0),18):=by
 have bd:=ok.bd;have hn: ¬ ∃w,w<al a.bv/\(a.bv[w]!).2.2.1=n:=by rintro⟨w,hw,e⟩;exact nn _ (aJ hw) e
 unfold oO;rw[mK a fit,Do ok,bR Ph,Do ht,hs1 _ _ (by omega),aF hn,aa5 ok.so,EQ op]
 grind
theorem A'{l:J Ev}{n i:Nat}{v:Ev}:(l.set i v).take n=(l.take n).set i v:=by
 apply List.ext_getElem?
 grind
theorem hco{n:Nat}{x:Ev}: ∀(i:Nat) (H:J Ev) (W:J Int),i<n->mJ x i (H.take n) W=((mJ x i H W).1,(mJ x i H W).2.1.take n,(mJ x i H W).2.2)
 |0,H,W,N=>by rw[mJ,mJ]
 |i+1,H,W,N=>by
  have e:(H.take n)[i / 2]! =H[i / 2]!:=rz (by omega);rw[mJ,mJ,e]
  by_cases h:less x H[i / 2]!
  ·rw[Do h,Do h,<-A']
   exact hco _ _ _ (by omega)
  grind
termination_by i=>i
decreasing_by omega
theorem adx{x:Ev}: ∀(i:Nat) (H:J Ev) (W:J Int),(mJ x i H W).1<=i
 |0,H,W=>by rw[mJ];omega
 |i+1,H,W=>by
  rw[mJ];split
  ·exact Nat.le_trans (adx (i / 2) _ _) (by omega)
  omega
termination_by i=>i
decreasing_by omega
theorem NO{n:Nat}{H:J Ev}{i:Nat}(hk:2*i+1<n):kU n (H.take n) i=kU n H i:=by
 unfold kU
 grind
theorem hxr{n:Nat}{x:Ev}{i:Nat}{H:J Ev}{W:J Int}(h:2*i+1<n)(I:less H[kU n H i]! x):fj n x i H W=fj n x (kU n H i) (H.set i H[kU n H i]!) (W.set (H[kU n H i]!).n (i:Int)):=by rw[fj,dif_pos h,Do I]
theorem abc{n:Nat}{x:Ev}{i:Nat}{H:J Ev}{W:J Int}(h: ¬(2*i+1<n/\less H[kU n H i]! x)):fj n x i H W=(i,H,W):=by
 rw[fj]
 grind
theorem hoo{n:Nat}{x:Ev}: ∀(d i:Nat) (H:J Ev) (W:J Int),n-i<=d->fj n x i (H.take n) W=((fj n x i H W).1,(fj n x i H W).2.1.take n,(fj n x i H W).2.2)
 |0,i,H,W,hd=>by
  grind[abc]
 |d+1,i,H,W,hd=>by
  have kc:=ur n H i
  by_cases h:2*i+1<n/\less H[kU n H i]! x
  ·have e:(H.take n)[kU n (H.take n) i]! =H[kU n H i]!:=by rw[NO h.1,rz (by omega)]
   rw[hxr h.1 h.2,hxr h.1 (by rw[e];exact h.2),e,NO h.1,<-A'];exact hoo d _ _ _ (by omega)
  grind[NO,rz,abc]
theorem hr1{x:Ev}: ∀(i:Nat) (H:J Ev) (W:J Int),(mJ x i H W).2.1.length=al H/\(mJ x i H W).2.2.length=al W
 |0,H,W=>by rw[mJ];simp
 |i+1,H,W=>by
  rw[mJ];split
  ·have:=hr1 (x:=x) (i / 2) (H.set (i+1) H[i / 2]!) (W.set (H[i / 2]!).n ((i+1:Nat):Int))
   rwa [IR,IR]at this
  simp
termination_by i=>i
decreasing_by omega
theorem hr2{n:Nat}{x:Ev}{i:Nat}{H:J Ev}{W:J Int}(N:i<n):eB n x i (H.take n) W=((eB n x i H W).1.take n,(eB n x i H W).2):=by unfold eB;rw[hco i H W N];dsimp only;rw[hoo n _ _ _ (by omega)];rw[A']
noncomputable def fS(a:aM)(i:Nat):aM:=
 if i<al a.bv-1 then⟨lh a.ai (a.bv[i]!).2.2.2,(eB (al a.bv-1) a.bv[al a.bv-1]! i a.bv (a.ax.set (Ev.n a.bv[i]!) (-1))).1.take (al a.bv-1),(eB (al a.bv-1) a.bv[al a.bv-1]! i a.bv (a.ax.set (Ev.n a.bv[i]!) (-1))).2⟩
 else⟨lh a.ai (a.bv[i]!).2.2.2,a.bv.take (al a.bv-1),a.ax.set (Ev.n a.bv[i]!) (-1)⟩
section
variable {a : aM} (ok : gB a) {i : Nat} (N : i < (al a.bv))
include ok N
theorem Gr{w:Nat}(hw:w<al a.bv)(fk:w≠i):Ev.n a.bv[w]!≠Ev.n a.bv[i]!:=by have D:=(ok.back hw).1;have S:=(ok.back N).1;exact azv D S λh=>fk (ok.inj hw N h)
theorem hyv:qT (al a.bv-1) a.bv (a.ax.set (Ev.n a.bv[i]!) (-1)):=by have c:=ok.cells;refine⟨by omega,c.hb,λw hw=>?_⟩;rw[IR];exact c.ev w (by omega)
theorem ady(iY:i<al a.bv-1):HO (al a.bv-1) a.bv[al a.bv-1]! (λe=> ∃w,w<al a.bv-1/\w≠i/\a.bv[w]! =e) a.bv (a.ax.set (Ev.n a.bv[i]!) (-1)) i:=by
 obtain⟨b1,b2,b3,b4,b5⟩:=ok.back (show(al a.bv)-1<(al a.bv) by omega);refine⟨iY,by omega,λw hw ZS=>?_,b1,by rw[IR,ok.wl];exact b2,λe=>Mi⟩;obtain⟨c1,c2,c3,c4,c5⟩:=ok.back (show w<(al a.bv) by omega);refine⟨c1,by rw[IR,ok.wl];exact c2,?_,λh=>?_⟩
 ·rw[bQ,EQ (λh=>Gr ok N (by omega) ZS h.1)]
  exact c5
 grind
theorem agP:Ord (al a.bv-1) a.bv i:=
 ⟨λw hw=>(ok.ev w (by omega)).den,λk k0 hk _ _=>ok.ord k k0 (by omega),λi0 k k0 hk hp=>ok.TR i0 k0 (by omega) hp⟩
theorem ajm(iY:i<al a.bv-1):
 Gn (al a.bv-1) a.bv[al a.bv-1]! (λe=> ∃w,w<al a.bv-1/\w≠i/\a.bv[w]! =e) (λk=>k≠Ev.n a.bv[al a.bv-1]!/\ ∀w,w<al a.bv-1->w≠i->Ev.n a.bv[w]!≠k) a.bv (a.ax.set (Ev.n a.bv[i]!) (-1))
  (eB (al a.bv-1) a.bv[al a.bv-1]! i a.bv (a.ax.set (Ev.n a.bv[i]!) (-1))).1 (eB (al a.bv-1) a.bv[al a.bv-1]! i a.bv (a.ax.set (Ev.n a.bv[i]!) (-1))).2:=
 Fo (ok.ev (al a.bv-1) (by omega)).den (ady ok N iY) (agP ok N)
theorem Bef:gM (lh a.ai (a.bv[i]!).2.2.2):=adm ok.so (ok.handle N).1
theorem Fu{j:Nat}(hj:j<al a.ai.aC):(lh a.ai (a.bv[i]!).2.2.2).be[j]! =if j=Ev.n a.bv[i]! then Pg else a.ai.be[j]!:=by
 show(a.ai.be.set _ Pg)[j]! =_;have:=ok.so.ul
 grind
theorem Ko:gB (fS a i):=by
 have hb:=ok.back N;have I:(al a.bv)-1+(lh a.ai (a.bv[i]!).2.2.2).bi.length=(al a.ai.aC):=by
  show(al a.bv)-1+(a.ai.bi++[_]).length=_;rw[Md];have:=ok.I
  grind
 have un: ∀j,j<al a.ai.aC->(lh a.ai (a.bv[i]!).2.2.2).be[j]! =Pg->(a.ax.set (Ev.n a.bv[i]!) (-1))[j]! = -1:=by
  intro j hj hu;rw[Fu ok N hj]at hu;rw[bQ]
  by_cases e:j=Ev.n a.bv[i]!
  ·rw[Do ⟨e.symm▸rfl,by rw[ok.wl];omega⟩]
  rw[EQ e]at hu
  rw[EQ (λk=>e k.1)];exact ok.un j hj hu
 unfold fS
 by_cases iY:i<al a.bv-1
 ·rw[Do iY]
  have st:=ajm ok N iY;refine BL (Bef ok N) st (by omega) (by rw[IR];exact ok.wl) I (λj hj hu=>?_) (λj hj hu=>⟨⟨?_,λw hw ZS=>?_⟩,un j hj hu⟩) ?_ ?_
  ·change j<(al a.ai.aC)at hj
   rw[Fu ok N hj]at hu
   by_cases e:j=Ev.n a.bv[i]!
   ·grind
   rw[EQ e]at hu
   obtain⟨w,hw,e1,e2⟩:=ok.LU hj hu;refine⟨a.bv[w]!,?_,e1,e2⟩
   grind
  ·change j<(al a.ai.aC)at hj
   rw[Fu ok N hj]at hu
   by_cases e:j=Ev.n a.bv[i]!
   ·grind[Gr]
   rw[EQ e]at hu
   exact(ok.T2 hu (by omega)).symm
  ·change j<(al a.ai.aC)at hj
   rw[Fu ok N hj]at hu
   by_cases e:j=Ev.n a.bv[i]!
   ·grind[Gr]
   rw[EQ e]at hu
   exact ok.T2 hu (by omega)
  ·rintro e (rfl|⟨w,hw,_,rfl⟩)
   ·exact ok.ev _ (by omega)
   exact ok.ev w (by omega)
  rintro e f (rfl|⟨v,hv,hvi,rfl⟩) (rfl|⟨w,hw,ZS,rfl⟩) he
  ·rfl
  ·rw[ok.GD (by omega) (by omega) he]
  ·rw[ok.GD (by omega) (by omega) he]
  rw[ok.GD (by omega) (by omega) he]
 rw[EQ iY]
 have hie:i=al a.bv-1:=by omega
 refine aiJ (Bef ok N) (λe=> ∃w,w<al a.bv-1/\a.bv[w]! =e) (by omega) (by rw[IR];exact ok.wl) I (λw hw=>?_) (λe=>Mi) (λk k0 hk=>ok.ord k k0 (by omega)) (λj hj hu=>?_) un ?_ ?_
 ·obtain⟨c1,c2,c3,c4,c5⟩:=ok.back (show w<(al a.bv) by omega)
  refine⟨c1,by rw[IR,ok.wl];exact c2,?_⟩
  grind
 ·change j<(al a.ai.aC)at hj
  rw[Fu ok N hj]at hu
  by_cases e:j=Ev.n a.bv[i]!
  ·grind
  rw[EQ e]at hu
  obtain⟨w,hw,e1,e2⟩:=ok.LU hj hu;refine⟨a.bv[w]!,⟨w,?_,rfl⟩,e1,e2⟩
  grind
 ·rintro e ⟨w,hw,rfl⟩
  exact ok.ev w (by omega)
 rintro e f ⟨v,hv,rfl⟩ ⟨w,hw,rfl⟩ he
 rw[ok.GD (by omega) (by omega) he]
theorem wrT(e:Ev):e∈(fS a i).bv↔(e∈a.bv/\e≠a.bv[i]!):=by
 have other: ∀w,w<al a.bv->(a.bv[w]!≠a.bv[i]!↔w≠i):=λw hw=>⟨λh k=>h (by rw[k]),λh k=>h (ok.inj hw N (by rw[k]))⟩
 unfold fS
 by_cases iY:i<al a.bv-1
 ·rw[Do iY]
  have st:=ajm ok N iY;show e∈(_:J Ev).take _↔_;rw[hld (by rw[st.I];omega)];refine(st.mem e).trans ?_;constructor
  ·grind
  rintro⟨h,fk⟩
  obtain⟨w,hw,rfl⟩:=aU.1 h
  grind
 rw[EQ iY]
 rw[hld (by omega)];constructor
 ·grind
 rintro⟨h,fk⟩
 obtain⟨w,hw,rfl⟩:=aU.1 h
 grind
theorem ceL:xl a (i:Int)=KL (fS a i,a.bv[i]!,0):=by
 have bd:=ok.bd;obtain⟨b1,b2,b3,b4,b5⟩:=ok.back N;obtain⟨c1,c2,c3,c4,c5⟩:=ok.back (show(al a.bv)-1<(al a.bv) by omega);unfold xl;have e1:M d5 _=((al a.bv-1:Nat):Int):=p5 (by omega) (by omega);have g1:=fh b1 (by rw[ok.wl];exact b2);have ws:bu a.ax _ _=a.ax.set (Ev.n a.bv[i]!) (-1):=rfl;simp (disch:=omega) only[aj,six ok.so (ok.handle N).1,bJ,aB,e1,aq,lJ,g1,ws,PP];unfold fS
 by_cases iY:i<al a.bv-1
 ·rw[aA (by omega),Do iY]
  have se:=aeh (cap:=al a.bv) (u:=(lh a.ai (a.bv[i]!).2.2.2).aC) (us:=(lh a.ai (a.bv[i]!).2.2.2).be) (fr:=(lh a.ai (a.bv[i]!).2.2.2).bi) (ok.ev (al a.bv-1) (by omega)) (c1) (hyv ok N) iY (by rw[IR,ok.wl];exact c2);rw[se];rfl
 grind
theorem hAW(fit:Fs a){h:Int×Int}(hh:(a.bv[i]!).2.2.2=h):pL a h=KL (fS a i,a.bv[i]!,0):=by unfold pL;rw[hbd ok fit N hh];simp_all[ceL]
theorem ae9{h:Int×Int}(hh:(a.bv[i]!).2.2.2=h):nE a h=KL (fS a i):=by
 have bd:=ok.bd;subst hh;obtain⟨b1,b2,b3,b4,b5⟩:=ok.back N;obtain⟨c1,c2,c3,c4,c5⟩:=ok.back (show(al a.bv)-1<(al a.bv) by omega);unfold nE;rw[xE ok];have e1:M d5 (((al a.bv):Int)-1)=((al a.bv-1:Nat):Int):=p5 (by omega) (by omega);have g1:az a.ax (a.bv[i]!).2.2.2.1=KL (i:Int):=by
  rw[fh b1 (by rw[ok.wl];exact b2)]
  grind
 have aay:=alA ok.so (ok.handle N).1;simp only[aj,g1,aB,e1,PP];unfold fS
 by_cases iY:i<al a.bv-1
 ·rw[cC (by omega),Do iY]
  have fk:(al a.bv)-1≠i:=by omega
  have nn:Ev.n a.bv[al a.bv-1]!≠Ev.n a.bv[i]!:=Gr ok N (by omega) fk;have sw:=I2 (u:=a.ai.aC) (us:=a.ai.be) (fr:=a.ai.bi) N (by omega) fk rfl b1 (by rw[ok.wl];exact b2) c1 (by rw[ok.wl];exact c2);rw[ij rfl,ij b5]at sw;have hs:(a.bv.set i a.bv[al a.bv-1]!).set (al a.bv-1) a.bv[i]! =(a.bv.set (al a.bv-1) a.bv[i]!).set i a.bv[al a.bv-1]!:=SK _ _ (by omega);have ws:bu ((a.ax.set (Ev.n a.bv[al a.bv-1]!) (i:Int)).set (Ev.n a.bv[i]!) ((al a.bv-1:Nat):Int)) (a.bv[i]!).2.2.2.1 (-1)=(a.ax.set (Ev.n a.bv[i]!) (-1)).set (Ev.n a.bv[al a.bv-1]!) (i:Int):=by
   show((a.ax.set (Ev.n a.bv[al a.bv-1]!) (i:Int)).set (Ev.n a.bv[i]!) ((al a.bv-1:Nat):Int)).set (Ev.n a.bv[i]!) (-1)=_;rw[List.set_set,SK _ _ nn]
  have g2:az ((a.ax.set (Ev.n a.bv[al a.bv-1]!) (i:Int)).set (Ev.n a.bv[i]!) ((al a.bv-1:Nat):Int)) (a.bv[i]!).2.2.2.1=KL _:=fh b1 (by rw[IR,IR,ok.wl];exact b2);have cells:qT (al a.bv-1) (a.bv.set (al a.bv-1) a.bv[i]!) (a.ax.set (Ev.n a.bv[i]!) (-1)):=by refine⟨by simp,by grind,λw hw=>?_⟩;rw[bQ,EQ (by omega)];exact(hyv ok N).ev w hw
  have x1:Ev.ix a.bv[al a.bv-1]!<(a.ax.set (Ev.n a.bv[i]!) (-1)).length:=by rw[IR,ok.wl];exact c2
  have X:=ok.ev (al a.bv-1) (by omega);have gv':uo (bg.mk a.ai.aC a.ai.be a.ai.bi) (a.bv[i]!).2.2.2=KL (lh a.ai (a.bv[i]!).2.2.2):=aay;have tk:(a.bv.set (al a.bv-1) a.bv[i]!).take (al a.bv-1)=a.bv.take (al a.bv-1):=by grind[A',Xc,GH]
  have U:qM ((lh a.ai (a.bv[i]!).2.2.2).aC,(lh a.ai (a.bv[i]!).2.2.2).be,(lh a.ai (a.bv[i]!).2.2.2).bi,al a.bv-1,((a.bv.set (al a.bv-1) a.bv[i]!).set i a.bv[al a.bv-1]!).length,(i:Int),(a.bv.set (al a.bv-1) a.bv[i]!).set i a.bv[al a.bv-1]!,(a.ax.set (Ev.n a.bv[i]!) (-1)).set (Ev.n a.bv[al a.bv-1]!) (i:Int))=
   KL (((mJ a.bv[al a.bv-1]! i (a.bv.set (al a.bv-1) a.bv[i]!) (a.ax.set (Ev.n a.bv[i]!) (-1))).1:Int),(mJ a.bv[al a.bv-1]! i (a.bv.set (al a.bv-1) a.bv[i]!) (a.ax.set (Ev.n a.bv[i]!) (-1))).2.1.set (mJ a.bv[al a.bv-1]! i (a.bv.set (al a.bv-1) a.bv[i]!) (a.ax.set (Ev.n a.bv[i]!) (-1))).1 a.bv[al a.bv-1]!,(mJ a.bv[al a.bv-1]! i (a.bv.set (al a.bv-1) a.bv[i]!) (a.ax.set (Ev.n a.bv[i]!) (-1))).2.2.set (Ev.n a.bv[al a.bv-1]!) ((mJ a.bv[al a.bv-1]! i (a.bv.set (al a.bv-1) a.bv[i]!) (a.ax.set (Ev.n a.bv[i]!) (-1))).1:Int)):=by
   unfold qM
   grind[adp,IR]
  have ul:=adx (x:=a.bv[al a.bv-1]!) i (a.bv.set (al a.bv-1) a.bv[i]!) (a.ax.set (Ev.n a.bv[i]!) (-1));have un:=hr1 (x:=a.bv[al a.bv-1]!) i (a.bv.set (al a.bv-1) a.bv[i]!) (a.ax.set (Ev.n a.bv[i]!) (-1));have agy:=λw hw=>Fq (x:=a.bv[al a.bv-1]!) cells iY rfl w hw
  have Wt:qT (al a.bv-1) (mJ a.bv[al a.bv-1]! i (a.bv.set (al a.bv-1) a.bv[i]!) (a.ax.set (Ev.n a.bv[i]!) (-1))).2.1 (mJ a.bv[al a.bv-1]! i (a.bv.set (al a.bv-1) a.bv[i]!) (a.ax.set (Ev.n a.bv[i]!) (-1))).2.2:=by
   refine⟨by rw[un.1,IR];omega,by rw[un.1,IR];omega,λw hw=>?_⟩
   grind
  have QJ:oC ((lh a.ai (a.bv[i]!).2.2.2).aC,(lh a.ai (a.bv[i]!).2.2.2).be,(lh a.ai (a.bv[i]!).2.2.2).bi,al a.bv-1,((a.bv.set (al a.bv-1) a.bv[i]!).set i a.bv[al a.bv-1]!).length,((mJ a.bv[al a.bv-1]! i (a.bv.set (al a.bv-1) a.bv[i]!) (a.ax.set (Ev.n a.bv[i]!) (-1))).1:Int),(mJ a.bv[al a.bv-1]! i (a.bv.set (al a.bv-1) a.bv[i]!) (a.ax.set (Ev.n a.bv[i]!) (-1))).2.1.set (mJ a.bv[al a.bv-1]! i (a.bv.set (al a.bv-1) a.bv[i]!) (a.ax.set (Ev.n a.bv[i]!) (-1))).1 a.bv[al a.bv-1]!,(mJ a.bv[al a.bv-1]! i (a.bv.set (al a.bv-1) a.bv[i]!) (a.ax.set (Ev.n a.bv[i]!) (-1))).2.2.set (Ev.n a.bv[al a.bv-1]!) ((mJ a.bv[al a.bv-1]! i (a.bv.set (al a.bv-1) a.bv[i]!) (a.ax.set (Ev.n a.bv[i]!) (-1))).1:Int))=
   KL (eB (al a.bv-1) a.bv[al a.bv-1]! i (a.bv.set (al a.bv-1) a.bv[i]!) (a.ax.set (Ev.n a.bv[i]!) (-1))):=by
   unfold oC;exact hcn (n:=al a.bv-1) X c1 (al a.bv) (mJ a.bv[al a.bv-1]! i (a.bv.set (al a.bv-1) a.bv[i]!) (a.ax.set (Ev.n a.bv[i]!) (-1))).1 (mJ a.bv[al a.bv-1]! i (a.bv.set (al a.bv-1) a.bv[i]!) (a.ax.set (Ev.n a.bv[i]!) (-1))).2.1 (mJ a.bv[al a.bv-1]! i (a.bv.set (al a.bv-1) a.bv[i]!) (a.ax.set (Ev.n a.bv[i]!) (-1))).2.2 (by omega) Wt (by omega) (by omega) IR IR
  have st:=hr2 (x:=a.bv[al a.bv-1]!) (H:=(a.bv.set (al a.bv-1) a.bv[i]!)) (W:=(a.ax.set (Ev.n a.bv[i]!) (-1))) iY;have Ap:=hr2 (x:=a.bv[al a.bv-1]!) (H:=a.bv) (W:=(a.ax.set (Ev.n a.bv[i]!) (-1))) iY;rw[tk,Ap]at st;injection st with uz VK;simp only[ww,sw,aj,lJ _ (al a.bv-1) (show(al a.bv)-1<=((a.bv.set (al a.bv-1) a.bv[i]!).set i a.bv[al a.bv-1]!).length by simp),g2,gv',ws,hs,U,QJ,<-uz,<-VK]
 rw[aY (by omega),EQ iY]
 have ws:bu a.ax (a.bv[i]!).2.2.2.1 (-1)=a.ax.set (Ev.n a.bv[i]!) (-1):=rfl;simp_all[AC,lJ,aj]
end
abbrev yc:=Int×Int×Int
theorem gB.fit{a:aM}(ok:gB a):Fs a:=by have bd:=ok.bd;have:=ok.so.fl;have:=ok.so.n2;exact⟨by omega,by omega,by omega,λw hw=>(ok.ev w hw).2.1⟩
theorem vK(l:J yc)(id:Int)(I:(al l)<=1000000)(hs: ∀i j,i<j->j<al l->(l[i]!).1<(l[j]!).1):
 (∀k,k<al l->(l[k]!).1=id->bk l id ()=KL ((k:Int),YF))/\
 ((∀k,k<al l->(l[k]!).1≠id)-> ∃m,m<=al l/\(∀i,i<m->(l[i]!).1<id)/\(∀i,m<=i->i<al l->id<(l[i]!).1)/\bk l id ()=KL ((m:Int),Pg)):=by
 obtain⟨m,m1,m2,m3⟩:=hgv (λi=>(l[i]!).1) id (al l) hs;have run:bk l id ()=au bn (l,id,((al l):Int),(m:Int),(m:Int)):=by
  refine Kk (λlo N=>(l,id,((al l):Int),(lo:Int),(N:Int))) (al l) m (λi=>(l[i]!).1<id) (λlo N D S=>?_) m2 (λi D S h3=>by have:=m3 i D S;omega) (al l) 0 (al l) (by omega) (by omega) m1 (Y _);have e1:D8 ((lo:Int)<(N:Int))=YF:=aA (by omega);have hh:=agJ (a:=lo) (b:=N) (by omega) (by omega);unfold bn xW;simp (disch:=omega) only[e1,hh,aq,oE,aj,aN];constructor
  ·intro h
   have:D8 (nS (l[(lo+N) / 2]!).1 id<0)=YF:=by rcases eJ _ id with⟨a,e⟩|⟨a,e⟩|⟨a,e⟩<;>rw[e]<;>first|rfl|omega
   rw[this];rfl
  intro h
  have:D8 (nS (l[(lo+N) / 2]!).1 id<0)=Pg:=by rcases eJ _ id with⟨a,e⟩|⟨a,e⟩|⟨a,e⟩<;>rw[e]<;>first|rfl|omega
  rw[this];rfl
 have fin:au bn (l,id,((al l):Int),(m:Int),(m:Int))=if m<al l/\(l[m]!).1=id then KL ((m:Int),YF)else KL ((m:Int),Pg):=by
  have e1:D8 ((m:Int)<(m:Int))=Pg:=aF (by omega)
  by_cases hm:m<al l
  ·have e2:D8 ((m:Int)<((al l):Int))=YF:=aA (by omega)
   have body:bn (l,id,((al l):Int),(m:Int),(m:Int))=KL (.done ((m:Int),nS (l[m]!).1 id==0)):=by unfold bn xW;simp only[e1,e2,ww,AC,aq l m hm,oE,aj]
   rw[ar body];rcases eJ _ id with⟨a,e⟩|⟨a,e⟩|⟨a,e⟩
   ·rw[e,EQ (λh=>by omega)];rfl
   ·rw[e,Do ⟨hm,a⟩];rfl
   rw[e,EQ (λh=>by omega)];rfl
  have e2:D8 ((m:Int)<((al l):Int))=Pg:=aF (by omega)
  have body:bn (l,id,((al l):Int),(m:Int),(m:Int))=KL (.done ((m:Int),Pg)):=by unfold bn;simp only[e1,e2,AC]
  rw[ar body,EQ (λh=>hm h.1)]
 rw[run,fin];constructor
 ·intro k hk he
  have hkm:k=m:=by
   rcases YG k m with h|h|h
   ·have:=m2 k h;omega
   ·exact h
   have D:=m3 m (Y _) (by omega)
   have S:=hs m k h hk;omega
  subst hkm;rw[Do ⟨hk,he⟩]
 grind
theorem ak9:dW=bk:=rfl
theorem adz:dM=bk:=rfl
theorem Gs:dR=bk:=rfl
theorem CA{α:Type}(l:J α)(k:Nat):l.eraseIdx k=l.take k++l.drop (k+1):=List.eraseIdx_eq_take_drop_succ l k
theorem Fv(l:J yc)(k:Nat)(hk:k<al l): ∃L:J yc,dF ((k:Int),((k+1:Nat):Int),l)=KL (al l-1,al l,L)/\L.take (al l-1)=l.eraseIdx k:=by
 unfold dF;have e1:D8 ((0:Int)<=(k:Int))=YF:=aA (by omega);have e2:D8 ((k:Int)<=((k+1:Nat):Int))=YF:=aA (by omega);have e3:D8 (((k+1:Nat):Int)<=((al l):Int))=YF:=aA (by omega);have e4:D8 (((al l):Int)<=((al l):Int))=YF:=aA (by omega);have e5:((k:Int)==((k+1:Nat):Int))=Pg:=hO (by omega);have e6:D8 ((0:Int)<=((k+1:Nat):Int))=YF:=aA (by omega);have e7:D8 ((k:Int)<=((al l):Int))=YF:=aA (by omega);have dr:(l.drop (k+1)).take (al l- (k+1))=l.drop (k+1):=List.take_of_length_le (by simp);have dl:(l.drop (k+1)).length=al l- (k+1):=QK;simp only[aB,e1,e2,e3,e4,e5,e6,e7,lJ l k (by omega),aj,PP,Nat.zero_add,dr,dl,EE,Bool.and_true]
 by_cases h:k+1=al l
 ·have em:(l.drop (k+1)).isEmpty=YF:=by rw[YJ,Pc];omega
  have n1:Sv (al l-k) 0=Pg:=by
   cases hb:Sv (al l-k) 0 with
   |false=>rfl
   |true=>have:=YH hb;omega
  have n2:Nat.ble (k+(al l-k)) (al l)=YF:=WF (by omega);have ll:(iL l k (SJ (al l-k) ((0:Int),(0:Int),(0:Int)))).length=(al l):=by unfold iL;simp;omega
  simp only[em,ww,n1,AC,n2,ll,beq_self_eq_true];refine⟨_,by rw[show k=al l-1 by omega],?_⟩;rw[CA,show(al l)-1=k by omega];unfold iL
  grind
 have em:(l.drop (k+1)).isEmpty=Pg:=by
  cases hb:(l.drop (k+1)).isEmpty with
  |false=>rfl
  |true=>rw[YJ,Pc]at hb;omega
 have n1:Nat.ble (k+(al l- (k+1))) (al l)=YF:=WF (by omega);have n2:D8 ((0:Int)<=((k+(al l- (k+1)):Nat):Int))=YF:=aA (by omega);have n3:D8 (((k+(al l- (k+1)):Nat):Int)<=((al l):Int))=YF:=aA (by omega);have n4:Sv (al l- (k+(al l- (k+1)))) 0=Pg:=by
  cases hb:Sv (al l- (k+(al l- (k+1)))) 0 with
  |false=>rfl
  |true=>have:=YH hb;omega
 have l1:(iL l k (l.drop (k+1))).length=(al l):=by unfold iL;simp;omega
 have n5:Nat.ble (k+(al l- (k+1))+(al l- (k+(al l- (k+1))))) (al l)=YF:=WF (by omega);have l2:(iL (iL l k (l.drop (k+1))) (k+(al l- (k+1))) (SJ (al l- (k+(al l- (k+1)))) ((0:Int),(0:Int),(0:Int)))).length=(al l):=by unfold iL;simp;omega
 simp only[em,AC,n1,ww,n2,n3,Bool.and_self,n4,l1,n5,l2,beq_self_eq_true];refine⟨_,by rw[show k+(al l- (k+1))=al l-1 by omega],?_⟩;rw[CA];have:k+(al l- (k+1))=al l-1:=by omega
 unfold iL
 grind
theorem peL:oZ=dF:=rfl
theorem hox{α:Type}[Inhabited α]{l:J α}{k i:Nat}:(l.eraseIdx k)[i]! =if i<k then l[i]! else l[i+1]!:=by
 grind
def jO(x:Int×Int):Prop:=0<=x.1/\x.1<=65535/\0<=x.2/\x.2<=65535/\x.1≠x.2
theorem abd(x:Int×Int):zK x=KL (D8 (jO x)):=by
 obtain⟨a,b⟩:=x;unfold zK
 by_cases D:0<=a
 ·by_cases h3:0<=b
  ·have e1:D8 (0<=if b<a then b else a)=YF:=aA (by split<;>omega)
   rw[e1]
   by_cases S:a<=65535
   ·by_cases h4:b<=65535
    ·have e2:D8 ((if b>a then b else a)<=65535)=YF:=aA (by split<;>omega)
     rw[e2]
     by_cases h5:a=b
     ·rw[aY h5,aF (λh=>h.2.2.2.2 h5)];rfl
     rw[cC h5,aA ⟨D,S,h3,h4,h5⟩];rfl
    have e2:D8 ((if b>a then b else a)<=65535)=Pg:=aF (by split<;>omega)
    rw[e2,aF (λh=>h4 h.2.2.2.1)];rfl
   have e2:D8 ((if b>a then b else a)<=65535)=Pg:=aF (by split<;>omega)
   rw[e2,aF (λh=>S h.2.1)];rfl
  have e1:D8 (0<=if b<a then b else a)=Pg:=aF (by split<;>omega)
  rw[e1,aF (p:=jO _) (λh=>h3 h.2.2.1)];rfl
 have e1:D8 (0<=if b<a then b else a)=Pg:=aF (by split<;>omega)
 rw[e1,aF (p:=jO _) (λh=>D h.1)];rfl
theorem ae'(x:Int×Int):zS x=KL (D8 (jO x)):=by
 obtain⟨a,b⟩:=x;unfold zS
 by_cases D:0<=a
 ·by_cases S:a<=65535
  ·by_cases h3:0<=b
   ·by_cases h4:b<=65535
    ·by_cases h5:a=b
     ·rw[aY h5,aA D,aA S,aA h3,aA h4,aF (λh=>h.2.2.2.2 h5)];rfl
     rw[cC h5,aA D,aA S,aA h3,aA h4,aA ⟨D,S,h3,h4,h5⟩];rfl
    rw[aA D,aA S,aA h3,aF h4,aF (λh=>h4 h.2.2.2.1)];rfl
   rw[aA D,aA S,aF h3,aF (p:=jO _) (λh=>h3 h.2.2.1)];rfl
  rw[aA D,aF S,aF (p:=jO _) (λh=>S h.2.1)];rfl
 rw[aF D,aF (p:=jO _) (λh=>D h.1)];rfl
structure gN(c:bA):Prop where
 len:(al c.ii)<=200
 n0:0<=c.aO
 n1:c.aO<=1000000
 cv: ∀i,i<al c.ii->jO (c.ii[i]!).2
 nr: ∀i,i<al c.ii->0<=(c.ii[i]!).1/\(c.ii[i]!).1<c.aO
 up: ∀i j,i<j->j<al c.ii->(c.ii[i]!).1<(c.ii[j]!).1
 nd: ∀i j,i<j->j<al c.ii->(c.ii[i]!).2≠(c.ii[j]!).2
def G6(l:J yc)(i:Nat):Int:=if i=0 then -1 else(l[i-1]!).1
def Wv(c:bA)(i:Nat):Prop:=jO (c.ii[i]!).2/\(∀j,j<i->(c.ii[j]!).2≠(c.ii[i]!).2)/\G6 c.ii i<(c.ii[i]!).1/\(c.ii[i]!).1<c.aO
theorem gN.iff{c:bA}(D:(al c.ii)<=200)(S:0<=c.aO)(h3:c.aO<=1000000):gN c↔ ∀i,i<al c.ii->Wv c i:=by
 constructor
 ·intro ok i N
  refine⟨ok.cv i N,λj hj=>ok.nd j i hj N,?_,(ok.nr i N).2⟩;unfold G6;split
  ·have:=(ok.nr i N).1;omega
  exact ok.up _ i (by omega) N
 intro h
 have low: ∀i,i<al c.ii->0<=(c.ii[i]!).1:=by
  intro i
  induction i with
  |zero=>
   intro N;have:=(h 0 N).2.2.1
   assumption
  |succ i ih=>
   intro N;have D:=(h _ N).2.2.1;unfold G6 at D
   grind
 have up: ∀i j,i<j->j<al c.ii->(c.ii[i]!).1<(c.ii[j]!).1:=by
  intro i j
  induction j with
  |zero=>intro h;omega
  |succ j ih=>
   intro rE hj;have D:=(h _ hj).2.2.1;unfold G6 at D
   grind
 exact⟨D,S,h3,λi N=>(h i N).1,λi N=>⟨low i N,(h i N).2.2.2⟩,up,λi j rE hj=>(h j hj).2.1 i rE⟩
theorem hdn(l:J yc)(k:Nat)(a b:Int):uO [a,b] ((l.take k).map λx=>[x.2.1,x.2.2])=YF:=by unfold uO;rw[List.all_eq_true];intro x X;obtain⟨y,hy,rfl⟩:=Sw.1 X;rfl
theorem hdf(l:J yc)(k:Nat)(x:Int×Int):Lw ((l.take k).map λy=>[y.2.1,y.2.2]) [x.1,x.2]=D8 (∃j,j<k/\j<al l/\(l[j]!).2=x):=by
 unfold Lw;rw[SG,List.any_eq_true,decide_eq_true_iff];constructor
 ·rintro⟨y,hy,he⟩
  obtain⟨z,hz,rfl⟩:=Sw.1 hy;obtain⟨j,D,S,rfl⟩:=cN.1 hz
  grind
 rintro⟨j,D,S,h3⟩
 refine⟨[(l[j]!).2.1,(l[j]!).2.2],Sw.2 ⟨l[j]!,cN.2 ⟨j,D,S,rfl⟩,rfl⟩,?_⟩;rw[h3];simp
theorem BN(c:bA):wI c=KL (if gN c then 0 else 8):=by
 unfold wI;simp[]
 by_cases D:200<al c.ii
 ·rw[aA (by omega),EQ (λh=>by have:=h.len;omega)];rfl
 rw[aF (by omega)]
 by_cases S:c.aO<0
 ·rw[aA S,EQ (λh=>by have:=h.n0;omega)];rfl
 rw[aF S]
 by_cases h3:1000000<c.aO
 ·rw[aA h3,EQ (λh=>by have:=h.n1;omega)];rfl
 rw[aF h3];simp;have key:=dX (body:=xh) (λi=>(G6 c.ii i,c.ii,((al c.ii):Int),(i:Int),c.aO,c.ii,(c.ii.take i).map λx=>[x.2.1,x.2.2])) (al c.ii) (λi=> ¬Wv c i) (e:=0) (λi N=>by
  have e1:D8 ((i:Int)<((al c.ii):Int))=YF:=aA (by omega);have has:Ta ((c.ii.take i).map λx=>[x.2.1,x.2.2]) [(c.ii[i]!).2.1,(c.ii[i]!).2.2]=KL (D8 (∃j,j<i/\j<al c.ii/\(c.ii[j]!).2=(c.ii[i]!).2)):=by unfold Ta;rw[hdn,hdf];rfl
  have nx:(c.ii.take (i+1)).map (λx=>[x.2.1,x.2.2])=((c.ii.take i).map λx=>[x.2.1,x.2.2])++[[(c.ii[i]!).2.1,(c.ii[i]!).2.2]]:=by rw[cB N,List.map_append];rfl
  have ln:G6 c.ii (i+1)=(c.ii[i]!).1:=by unfold G6;rw[EQ (by omega),show i+1-1=i by omega]
  unfold xh;simp (disch:=omega) only[e1,aq c.ii i N,aj,abd,has,aN];unfold Wv
  by_cases b1:jO (c.ii[i]!).2
  case neg=>rw[aF b1];exact⟨λ_=>rfl,λh=>absurd (If.1 h).1 b1⟩
  rw[aA b1]
  by_cases b2: ∃j,j<i/\j<al c.ii/\(c.ii[j]!).2=(c.ii[i]!).2
  ·rw[aA b2]
   refine⟨λ_=>rfl,λh=>?_⟩;obtain⟨j,j1,j2,j3⟩:=b2;exact absurd j3 ((If.1 h).2.1 j j1)
  rw[aF b2]
  by_cases b3:(c.ii[i]!).1<=G6 c.ii i
  ·rw[aA b3]
   exact⟨λ_=>rfl,λh=>absurd (If.1 h).2.2.1 (by omega)⟩
  rw[aF b3]
  by_cases b4:c.aO<=(c.ii[i]!).1
  ·rw[aA b4]
   exact⟨λ_=>rfl,λh=>absurd (If.1 h).2.2.2 (by omega)⟩
  rw[aF b4];have ins:Tb ((c.ii.take i).map λx=>[x.2.1,x.2.2]) [(c.ii[i]!).2.1,(c.ii[i]!).2.2]=KL (((c.ii.take i).map λx=>[x.2.1,x.2.2])++[[(c.ii[i]!).2.1,(c.ii[i]!).2.2]]):=by unfold Tb H2;rw[hdn,hdf,aF b2];rfl
  grind) (by
  unfold xh;simp)
 have h0:G6 c.ii 0= -1:=rfl
 by_cases ok:gN c
 ·simp_all[gN.iff]
 rw[EQ ok]
 grind[gN.iff]
theorem feL(c:bA)(i:Nat)(N:i<al c.ii)(I:(al c.ii)<=200):
 ((∃j,j<i/\(c.ii[j]!).2=(c.ii[i]!).2)->au jJ ((i:Int),0,c.aO,c.ii,c.ii[i]!)=KL (.done 8))/\
 ((∀j,j<i-> ¬(c.ii[j]!).2=(c.ii[i]!).2)->au jJ ((i:Int),0,c.aO,c.ii,c.ii[i]!)=KL (.next (((i+1:Nat):Int),c.aO,c.ii))):=by
 refine dX (λj=>((i:Int),(j:Int),c.aO,c.ii,c.ii[i]!)) i (λj=>(c.ii[j]!).2=(c.ii[i]!).2) (λj hj=>?_) ?_
 ·have e1:=aA (by omega)
  unfold jJ;simp (disch:=omega) only[aq,aN]
  grind
 unfold jJ
 have:D8 ((i:Int)<(i:Int))=Pg:=aF (by omega);simp (disch:=omega) only[this,AC,aN]
theorem hbl(c:bA):xX c=KL (if gN c then 0 else 8):=by
 unfold xX;simp[]
 by_cases D:200<al c.ii
 ·rw[aA (by omega),EQ (λh=>by have:=h.len;omega)];rfl
 rw[aF (by omega)]
 by_cases S:c.aO<0
 ·rw[aA S,EQ (λh=>by have:=h.n0;omega)];rfl
 rw[aF S]
 by_cases h3:1000000<c.aO
 ·rw[aA h3,EQ (λh=>by have:=h.n1;omega)];rfl
 simp;have key:=dX (body:=vp) (λi=>((i:Int),c.aO,c.ii)) (al c.ii) (λi=> ¬(jO (c.ii[i]!).2/\0<=(c.ii[i]!).1/\(c.ii[i]!).1<c.aO/\(0<i->(c.ii[i-1]!).1<(c.ii[i]!).1)/\ ∀j,j<i-> ¬(c.ii[j]!).2=(c.ii[i]!).2)) (e:=0) (λi N=>by
  have e1:D8 ((i:Int)<((al c.ii):Int))=YF:=aA (by omega);have l1:=feL c i N (by omega);unfold vp;simp only[aB,e1,aq c.ii i N,aj,ae']
  by_cases b1:jO (c.ii[i]!).2
  case neg=>rw[aF b1];exact⟨λ_=>rfl,λh=>absurd (If.1 h).1 b1⟩
  rw[aA b1]
  by_cases b2:(c.ii[i]!).1<0
  ·rw[aA b2]
   exact⟨λ_=>rfl,λh=>absurd (If.1 h).2.1 (by omega)⟩
  rw[aF b2]
  by_cases b3:c.aO<=(c.ii[i]!).1
  ·rw[aA b3]
   exact⟨λ_=>rfl,λh=>absurd (If.1 h).2.2.1 (by omega)⟩
  rw[aF b3];have go:(0<i->(c.ii[i-1]!).1<(c.ii[i]!).1)->(¬(jO (c.ii[i]!).2/\0<=(c.ii[i]!).1/\(c.ii[i]!).1<c.aO/\(0<i->(c.ii[i-1]!).1<(c.ii[i]!).1)/\ ∀j,j<i-> ¬(c.ii[j]!).2=(c.ii[i]!).2)->au jJ ((i:Int),0,c.aO,c.ii,c.ii[i]!)=KL (.done 8))/\
   (¬¬(jO (c.ii[i]!).2/\0<=(c.ii[i]!).1/\(c.ii[i]!).1<c.aO/\(0<i->(c.ii[i-1]!).1<(c.ii[i]!).1)/\ ∀j,j<i-> ¬(c.ii[j]!).2=(c.ii[i]!).2)->au jJ ((i:Int),0,c.aO,c.ii,c.ii[i]!)=KL (.next (((i+1:Nat):Int),c.aO,c.ii))):=by
   intro hp;constructor
   ·intro h
    refine l1.1 (Classical.byContradiction λX=>h ⟨b1,by omega,by omega,hp,λj hj he=>X ⟨j,hj,he⟩⟩)
   intro h
   exact l1.2 (If.1 h).2.2.2.2
  by_cases b4:0<i
  ·have f1:D8 ((0:Int)<(i:Int))=YF:=aA (by omega)
   simp (disch:=omega) only[f1,p5 (by omega) b4,aq,aj]
   by_cases b5:(c.ii[i]!).1<=(c.ii[i-1]!).1
   ·rw[aA b5]
    exact⟨λ_=>rfl,λh=>absurd ((If.1 h).2.2.2.1 b4) (by omega)⟩
   rw[aF b5]
   exact go λ_=>by omega
  ·have f1:D8 ((0:Int)<(i:Int))=Pg:=aF (by omega)
   rw[f1];exact go λh=>absurd h b4) (by
  unfold vp;have:D8 (((al c.ii):Int)<((al c.ii):Int))=Pg:=aF (by omega);simp[])
 have same:gN c↔ ∀i,i<al c.ii->(jO (c.ii[i]!).2/\0<=(c.ii[i]!).1/\(c.ii[i]!).1<c.aO/\(0<i->(c.ii[i-1]!).1<(c.ii[i]!).1)/\ ∀j,j<i-> ¬(c.ii[j]!).2=(c.ii[i]!).2):=by
  constructor
  ·intro ok i N
   exact⟨ok.cv i N,(ok.nr i N).1,(ok.nr i N).2,λh=>ok.up (i-1) i (by omega) N,λj hj=>ok.nd j i hj N⟩
  intro h
  rw[gN.iff (by omega) (by omega) (by omega)];intro i N;obtain⟨a1,a2,a3,a4,a5⟩:=h i N;refine⟨a1,a5,?_,a3⟩;unfold G6;split
  ·omega
  exact a4 (by omega)
 grind
def rQ(l:J yc)(x:Int×Int):Prop:= ∃i,i<al l/\(l[i]!).2=x
theorem hmk(l:J yc)(x:Int×Int)(I:(al l)<=1000000):db l x=KL (D8 (rQ l x)):=by
 unfold db iB;have key:=jK (body:=ez) (λi=>(l,x.1,x.2,((al l):Int),(i:Int))) (al l) (λi=>(l[i]!).2=x) (λi=>(i:Int)) (e:= -1) (λi N=>by
  unfold ez HE;simp (disch:=omega) only[aq l i N,aN]
  grind) (by
  unfold ez;simp)
 by_cases X:rQ l x
 ·obtain⟨k,D,S,h3⟩:=least X
  have:=key.1 k D S h3;simp_all
 have:=key.2 λi N he=>X ⟨i,N,he⟩
 grind
theorem Kq:fF=db:=rfl
theorem DK(c:bA)(x:Int×Int)(I:(al c.ii)<=1000000):Co c x=KL (D8 (rQ c.ii x)):=by
 have key:=dX (body:=y6) (λi=>((i:Int),c.aO,c.ii,x)) (al c.ii) (λi=>(c.ii[i]!).2=x) (r:=YF) (e:=Pg) (λi N=>by
  have e1:=aA (by omega);unfold y6;simp (disch:=omega) only[aq c.ii i N,aN]
  grind) (by
  unfold y6;simp)
 by_cases X:rQ c.ii x
 ·rw[aA X];exact key.1 X
 rw[aF X];exact key.2 λi N he=>X ⟨i,N,he⟩
def vL(c:bA)(x:Int×Int):bA:=⟨c.aO+1,c.ii++[(c.aO,x)]⟩
def I6(c:bA):Prop:=al c.ii=200\/c.aO=1000000
theorem akh{c:bA}(ok:gN c){x:Int×Int}(X:jO x):IT c x=KL (if rQ c.ii x then(⟨0,[]⟩,0,14)else if I6 c then(⟨0,[]⟩,0,18)else(vL c x,c.aO,0)):=by
 have:=ok.len;have:=ok.n0;have:=ok.n1;unfold IT;rw[BN,Do ok,abd,aA X,hmk _ _ (by omega)];simp[]
 by_cases D:rQ c.ii x
 ·grind
 rw[aF D,EQ D];unfold I6
 by_cases S:(al c.ii)=200
 ·grind
 rw[hO (by omega)]
 by_cases h3:c.aO=1000000
 ·grind
 rw[hO h3,EQ (by omega)];have e:M d5 (c.aO+1)=c.aO+1:=by rw[wi];omega
 simp (disch:=omega) only[bJ,aj,ba (show(al c.ii)+[(c.aO,x)].length<=1048576 by simp;omega),e];rfl
theorem af7{c:bA}(ok:gN c){x:Int×Int}(X:jO x):Gd c x=KL (if rQ c.ii x then(⟨0,[]⟩,0,14)else if I6 c then(⟨0,[]⟩,0,18)else(vL c x,c.aO,0)):=by
 have:=ok.len;have:=ok.n0;have:=ok.n1;unfold Gd sN;rw[hbl,Do ok,ae',aA X,DK _ _ (by omega)];simp[]
 by_cases D:rQ c.ii x
 ·grind
 rw[aF D,EQ D];unfold I6
 by_cases S:(al c.ii)=200
 ·grind
 rw[hO (by omega)]
 by_cases h3:c.aO=1000000
 ·grind
 rw[hO h3,EQ (by omega)];have e:M d5 (c.aO+1)=c.aO+1:=by rw[wi];omega
 simp (disch:=omega) only[bJ,aj,ba (show(al c.ii)+[(c.aO,x)].length<=1048576 by simp;omega),e];rfl
theorem z8{c:bA}{x:Int×Int}{i:Nat}:(vL c x).ii[i]! =if i<(al c.ii)then c.ii[i]! else if i=(al c.ii)then(c.aO,x)else default:=by
 show(c.ii++[(c.aO,x)])[i]! =_
 grind
theorem Gt{c:bA}{x:Int×Int}:(vL c x).ii.length=al c.ii+1:=by show(c.ii++[(c.aO,x)]).length=_;simp
theorem acu{c:bA}(ok:gN c){x:Int×Int}(X:jO x)(hn: ¬rQ c.ii x)(hf: ¬I6 c):gN (vL c x):=by
 have D:=ok.len;have S:=ok.n0;have h3:=ok.n1;unfold I6 at hf;refine⟨by rw[Gt];omega,by show 0<=c.aO+1;omega,by show c.aO+1<=1000000;omega,?_,?_,?_,?_⟩
 ·intro i N
  rw[Gt]at N;rw[z8]
  by_cases h:i<al c.ii
  ·rw[Do h];exact ok.cv i h
  grind
 ·intro i N
  rw[Gt]at N;rw[z8];show 0<=_/\_<c.aO+1
  by_cases h:i<al c.ii
  ·rw[Do h];have:=ok.nr i h;omega
  grind
 ·intro i j rE hj
  rw[Gt]at hj;rw[z8,z8,Do (by omega)]
  by_cases h:j<al c.ii
  ·rw[Do h];exact ok.up i j rE h
  rw[EQ h,Do (by omega)]
  exact(ok.nr i (by omega)).2
 intro i j rE hj
 rw[Gt]at hj;rw[z8,z8,Do (by omega)]
 by_cases h:j<al c.ii
 ·rw[Do h];exact ok.nd i j rE h
 rw[EQ h,Do (by omega)]
 exact λhe=>hn ⟨i,by omega,he⟩
def rC(c:bA)(k:Nat):bA:=⟨c.aO,c.ii.eraseIdx k⟩
theorem I7{α:Type}{l:J α}{k:Nat}(hk:k<al l):(l.eraseIdx k).length=al l-1:=by
 grind
theorem dom{c:bA}(ok:gN c){k:Nat}(hk:k<al c.ii):gN (rC c k):=by
 have D:=ok.len;have len:(rC c k).ii.length=al c.ii-1:=I7 hk;have cell: ∀i,∃j,i<=j/\j<=i+1/\(i<al c.ii-1->j<al c.ii)/\(rC c k).ii[i]! =c.ii[j]!/\(i<k->j=i)/\(k<=i->j=i+1):=by
  intro i
  by_cases h:i<k
  ·exact⟨i,by omega,by omega,by omega,by show(c.ii.eraseIdx k)[i]! =_;grind,λ_=>rfl,by omega⟩
  exact⟨i+1,by omega,by omega,by omega,by show(c.ii.eraseIdx k)[i]! =_;grind,by omega,λ_=>rfl⟩
 refine⟨by omega,ok.n0,ok.n1,?_,?_,?_,?_⟩
 ·intro i N
  obtain⟨j,j1,j2,j3,j4,j5,j6⟩:=cell i;rw[j4];exact ok.cv j (j3 (by omega))
 ·intro i N
  obtain⟨j,j1,j2,j3,j4,j5,j6⟩:=cell i;rw[j4];exact ok.nr j (j3 (by omega))
 ·intro i i' rE N
  obtain⟨j,j1,j2,j3,j4,j5,j6⟩:=cell i;obtain⟨m,m1,m2,m3,m4,hid,ht'⟩:=cell i';rw[j4,m4];exact ok.up j m (by omega) (m3 (by omega))
 intro i i' rE N
 obtain⟨j,j1,j2,j3,j4,j5,j6⟩:=cell i;obtain⟨m,m1,m2,m3,m4,hid,ht'⟩:=cell i';rw[j4,m4];exact ok.nd j m (by omega) (m3 (by omega))
theorem acv{c:bA}(ok:gN c){k:Nat}(hk:k<al c.ii){n:Int}(hn:(c.ii[k]!).1=n):AL c n=KL (rC c k,(c.ii[k]!).2,0):=by have D:=ok.len;unfold AL Ke;obtain⟨L,d1,d2⟩:=Fv c.ii k hk;rw[BN,Do ok,(vK c.ii n (by omega) ok.up).1 k hk hn];simp (disch:=omega) only[aj,show((0:Int) !=0)=Pg from rfl,AC,NE,bJ,aN,d1,aq c.ii k hk,d2];rfl
theorem id'{l:J yc}{k:Nat}(hk:k<al l)(hs: ∀i j,i<j->j<al l->(l[i]!).1<(l[j]!).1){n:Int}(hn:(l[k]!).1=n):l.filter (λx=>x.1 !=n)=l.eraseIdx k:=by
 rw[CA];have e:l.filter (λx=>x.1 !=n)=(l.take k++l[k]!::l.drop _).filter (λx=>x.1 !=n):=congrArg _ (Ny hk);rw[e,Mp,List.filter_cons_of_neg (by rw[hn];simp)]
 congr 1
 ·rw[SI]
  intro x X;obtain⟨i,D,S,rfl⟩:=cN.1 X
  grind
 rw[SI]
 intro x X;obtain⟨i,D,rfl⟩:=aU.1 X;rw[QK]at D;have:=hs k (k+1+i) (by omega) (by omega)
 grind
theorem af8{c:bA}(ok:gN c){k:Nat}(hk:k<al c.ii){n:Int}(hn:(c.ii[k]!).1=n):BG c n=KL (rC c k):=by
 have D:=ok.len;have key:=bc (body:=oB) (λi=>(n,(i:Int),c.aO,c.ii,0,c.aO,(c.ii.take i).filter (λx=>x.1 !=n))) (al c.ii) (λi N=>by
  have e1:D8 ((i:Int)<((al c.ii):Int))=YF:=aA (by omega);have nx:(c.ii.take (i+1)).filter (λx=>x.1 !=n)=(c.ii.take i).filter (λx=>x.1 !=n)++(if(c.ii[i]!).1 !=n then [c.ii[i]!]else []):=by rw[cB N,Mp,List.filter_cons,List.filter_nil]
  unfold oB;simp (disch:=omega) only[aB,e1,aq c.ii i N,aj,aN,nx]
  by_cases h:(c.ii[i]!).1=n
  ·grind
  rw[cC h]
  simp only[ww,if_true,ba (show((c.ii.take i).filter (λx=>x.1 !=n)).length+[c.ii[i]!].length<=1048576 by grind),aj])
 have fin:oB (n,((al c.ii):Int),c.aO,c.ii,0,c.aO,(c.ii.take (al c.ii)).filter (λx=>x.1 !=n))=KL (.done (rC c k)):=by unfold oB;have:D8 (((al c.ii):Int)<((al c.ii):Int))=Pg:=aF (by omega);simp[];rw[id' hk ok.up hn];rfl
 refine Eq.trans ?_ (ar fin);exact key
def dZ(l:J Pt)(id:Int):Prop:= ∃k,k<al l/\(l[k]!).1=id
noncomputable def bm(l:J Pt)(id:Int):Pt:=if h:dZ l id then l[h.choose]! else(-1,0,0)
theorem nZ{l:J Pt}(hs:fQ l){k:Nat}(hk:k<al l){id:Int}(h:(l[k]!).1=id):bm l id=l[k]!:=by
 have hp:dZ l id:=⟨k,hk,h⟩;unfold bm
 grind[o7]
theorem bU{l:J Pt}(ok:aS l){id:Int}(h:dZ l id):gO (bm l id)/\(bm l id).1=id:=by obtain⟨k,hk,he⟩:=h;rw[nZ ok.2.2 hk he];exact⟨ok.2.1 _ (aJ hk),he⟩
theorem Kt{l:J Pt}{id:Int}(h: ¬dZ l id):bm l id=(-1,0,0):=by unfold bm;rw[dif_neg h]
theorem qU{l:J Pt}(ok:aS l)(id:Int):mU ⟨l⟩ id=KL (bm l id):=by
 have D:=ok.1;have bs:=vK l id (by omega) (λi j=>eW ok.2.2);unfold mU;rw[adz]
 by_cases h:dZ l id
 ·obtain⟨k,hk,he⟩:=h
  rw[bs.1 k hk he];simp[aq l k hk,nZ ok.2.2 hk he]
 obtain⟨m,m1,m2,m3,e⟩:=bs.2 (λk hk he=>h ⟨k,hk,he⟩)
 rw[e,Kt h];rfl
theorem yr{l:J Pt}(ok:aS l){id:Int}(h:dZ l id): ∃k,k<al l/\fO ⟨l⟩ id=KL (k:Int)/\l[k]! =bm l id:=by have D:=ok.1;obtain⟨k,hk,he⟩:=h;exact⟨k,hk,Cu ok.2.2 (by omega) hk he,(nZ ok.2.2 hk he).symm⟩
theorem Fx{l:J Pt}(ok:aS l){id:Int}(h: ¬dZ l id):fO ⟨l⟩ id=KL (-1):=by have D:=ok.1;exact agN (by omega) λk hk he=>h ⟨k,hk,he⟩
def lK(l:J Pt)(x:Int×Int):Prop:=dZ l x.1/\dZ l x.2
noncomputable def cf(l:J Pt)(x t:Int×Int):(Int×Int)×Bool:=kg (bm l x.2) (bm l x.1) t
theorem BO{l:J Pt}(ok:aS l){x t:Int×Int}(X:jO x)(ht:bI t)(Ph:jo t):
 wL ⟨l⟩ x t=KL (if lK l x then((cf l x t).1,(cf l x t).2,0)else((0,0),Pg,8)):=by
 unfold wL;rw[qU ok,qU ok];simp[aea Ph];have bad: ¬gO (-1,0,0):=by unfold gO;omega
 by_cases D:dZ l x.1
 ·by_cases S:dZ l x.2
  ·obtain⟨p1,p2⟩:=bU ok D
   obtain⟨q1,q2⟩:=bU ok S;rw[Do ⟨q1,p1,ht,by rw[p2,q2];exact λh=>X.2.2.2.2 h.symm⟩,Do ⟨D,S⟩];rfl
  rw[Kt S,EQ (λh=>bad h.1),EQ (λh=>bad h.1),EQ (λh=>S h.2)]
 rw[Kt D,EQ (λh=>bad h.2.1),EQ (λh=>bad h.2.1),EQ (λh=>D h.1)]
theorem BP{l:J Pt}(ok:aS l){x t:Int×Int}(Ph:jo t)(hb:lK l x):wS ⟨l⟩ x t=KL (cf l x t):=by obtain⟨D,S⟩:=hb;obtain⟨j,j1,j2,j3⟩:=yr ok D;obtain⟨k,k1,k2,k3⟩:=yr ok S;unfold wS;simp[j2,k2,aq l j j1,aq l k k1,j3,k3,ck4 (bU ok S).1 (bU ok D).1 Ph];rfl
theorem adA(c:bA){l:J Pt}(ok:aS l)(I:(al c.ii)<=200):AR c ⟨l⟩=KL (D8 (∀i,i<al c.ii->lK l (c.ii[i]!).2)):=by
 unfold AR;have key:=dX (body:=vq) (λi=>((i:Int),c.aO,c.ii,l)) (al c.ii) (λi=> ¬lK l _) (e:=YF) (λi N=>by
  have e1:D8 ((i:Int)<((al c.ii):Int))=YF:=aA (by omega);unfold vq lK;simp (disch:=omega) only[aB,e1,ww,aq c.ii i N,aj,aN]
  by_cases D:dZ l (c.ii[i]!).2.1
  ·obtain⟨k,k1,k2,_⟩:=yr ok D
   rw[k2]
   by_cases S:dZ l (c.ii[i]!).2.2
   ·obtain⟨j,j1,j2,_⟩:=yr ok S
    rw[j2];simp (disch:=omega) only[aj,aF,AC];exact⟨λh=>absurd ⟨D,S⟩ h,λ_=>trivial⟩
   rw[Fx ok S]
   exact⟨λ_=>rfl,λh=>absurd (If.1 h).2 S⟩
  ·rw[Fx ok D]
   exact⟨λ_=>rfl,λh=>absurd (If.1 h).1 D⟩) (by
  unfold vq;simp[])
 by_cases X: ∀i,i<al c.ii->lK l (c.ii[i]!).2
 ·rw[aA X];exact key.2 λi N=>If.2 (X i N)
 grind
def bo(l:J Pt)(t:Int×Int)(H:J Ev):J yc->J yc->Prop
 | [],ds=>ds=[]
 |x::cs,ds=>((cf l x.2 t).2=YF-> ∃d GN,ds=d::GN/\d.1=x.1/\((cf l x.2 t).1.1,(cf l x.2 t).1.2,x.1,d.2)∈H/\bo l t H cs GN)/\((cf l x.2 t).2=Pg->bo l t H cs ds)
structure aV(c:aE):Prop where
 ie:bI c.io
 cO:jo c.io
 fD:aS c.jp.am
 vX:gN c.af
 oH:gB c.ae
 NX:(al c.ae.ax)=200
 hd:(al c.ae.bv)=al c.kw
 known: ∀i,i<al c.af.ii->lK c.jp.am (c.af.ii[i]!).2
 Gu:bo c.jp.am c.io c.ae.bv c.af.ii c.kw
structure nm(c:aE):Prop where
 cO:jo c.io
 ag:Fs c.ae
 du:(al c.kw)<=1000000
theorem aiK{a:aM}(ok:gB a)(w2:(al a.ax)=200)(t:Int×Int)(n:Int)(h:Int×Int):
 (0<=h.1/\h.1<200/\0<=a.ax[h.1.toNat]!/\a.bv[(a.ax[h.1.toNat]!).toNat]! =(t.1,t.2,n,h))↔((t.1,t.2,n,h):Ev)∈a.bv:=by
 have wl:=ok.wl;constructor
 ·rintro⟨D,S,h3,h4⟩
  cases hb:a.ai.be[h.1.toNat]! with
  |false=>have:=ok.un h.1.toNat (by omega) hb;omega
  |true=>
   have:=ok.fwd h.1.toNat (by omega) hb
   grind
 intro hm
 obtain⟨w,hw,he⟩:=aU.1 hm;obtain⟨b1,b2,b3,b4,b5⟩:=ok.back hw
 grind
theorem adB{a:aM}(ok:gB a){i:Nat}(N:i<al a.ai.aC)(h:0<=a.ax[i]!):a.ax[i]!<(al a.bv):=by
 cases hb:a.ai.be[i]! with
 |false=>have:=ok.un i N hb;omega
 |true=>exact(ok.fwd i N hb).2.1
theorem zl{α:Type}[Inhabited α]{l:J α}{i:Nat}(h:i<al l):l.drop i=l[i]!::l.drop (i+1):=by simp_all
theorem acw{c:aE}(ie:bI c.io)(cO:jo c.io)(fD:aS c.jp.am)(vX:gN c.af)(oH:gB c.ae)(w2:(al c.ae.ax)=200):
 ∀(d i:Nat) (ds:J yc),al c.af.ii-i<=d->i<=al c.af.ii->al ds<=1000000->
  au dz (ds,c.af.ii,((al c.af.ii):Int),(i:Int),c.io.1,c.io.2,c.jp.am,c.af.aO,c.af.ii,c.ae.ai.aC,c.ae.ai.be,c.ae.ai.bi,c.ae.bv,c.ae.ax,c.kw)=
   KL (.done (if(∀j,i<=j->j<al c.af.ii->lK c.jp.am (c.af.ii[j]!).2)/\bo c.jp.am c.io c.ae.bv (c.af.ii.drop i) ds then 0 else 8)):=by
 have I:=vX.len;have wl:=oH.wl;have fin: ∀(ds:J yc),au dz (ds,c.af.ii,((al c.af.ii):Int),((al c.af.ii):Int),c.io.1,c.io.2,c.jp.am,c.af.aO,c.af.ii,c.ae.ai.aC,c.ae.ai.be,c.ae.ai.bi,c.ae.bv,c.ae.ax,c.kw)=KL (.done (if ds=[]then 0 else 8)):=by
  intro ds;refine ar ?_;unfold dz;have e1:D8 (((al c.af.ii):Int)<((al c.af.ii):Int))=Pg:=aF (by omega);simp only[aB,e1,AC];cases ds with
  |nil=>rfl
  |cons d ds=>simp
 intro d
 induction d with
 |zero=>
  intro i ds hd N GM;have:i=(al c.af.ii):=by omega
  subst this;rw[fin ds,Ii];have:((∀j,al c.af.ii<=j->j<al c.af.ii->lK c.jp.am (c.af.ii[j]!).2)/\bo c.jp.am c.io c.ae.bv [] ds)↔ds=[]:=⟨λh=>h.2,λh=>⟨λj D S=>by omega,h⟩⟩
  grind
 |succ d ih=>
  intro i ds hd N GM
  by_cases he:i=al c.af.ii
  ·grind
  have yD:i<(al c.af.ii):=by omega
  have e1:D8 ((i:Int)<((al c.af.ii):Int))=YF:=aA (by omega);have hw:=BO fD (vX.cv i yD) ie cO;have dr:=zl yD;have all:(∀j,i<=j->j<al c.af.ii->lK c.jp.am (c.af.ii[j]!).2)↔(lK c.jp.am (c.af.ii[i]!).2/\ ∀j,i+1<=j->j<al c.af.ii->lK c.jp.am (c.af.ii[j]!).2):=by
   grind
  have sc:=aN (show i<1000000000 by omega)
  by_cases hb:lK c.jp.am (c.af.ii[i]!).2
  case neg=>rw[EQ (λh=>hb (all.1 h.1).1)];refine ar ?_;unfold dz;simp_all[ww,aq,aj,EQ]
  rw[Do hb]at hw
  by_cases is:(cf c.jp.am (c.af.ii[i]!).2 c.io).2=YF
  case neg=>
   have Z4:(cf c.jp.am (c.af.ii[i]!).2 c.io).2=Pg:=by simpa using is
   rw[aD (y:=(ds,c.af.ii,((al c.af.ii):Int),((i+1:Nat):Int),c.io.1,c.io.2,c.jp.am,c.af.aO,c.af.ii,c.ae.ai.aC,c.ae.ai.be,c.ae.ai.bi,c.ae.bv,c.ae.ax,c.kw)) (by unfold dz;simp_all[ww,aq,aj,AC,EE]),ih (i+1) ds (by omega) (by omega) GM];have same:((∀j,i<=j->j<al c.af.ii->lK c.jp.am (c.af.ii[j]!).2)/\bo c.jp.am c.io c.ae.bv (c.af.ii.drop i) ds)↔((∀j,i+1<=j->j<al c.af.ii->lK c.jp.am (c.af.ii[j]!).2)/\bo c.jp.am c.io c.ae.bv (c.af.ii.drop (i+1)) ds):=by
    rw[dr,all];constructor
    ·rintro⟨⟨_,D⟩,S⟩;exact⟨D,S.2 Z4⟩
    rintro⟨D,S⟩;exact⟨⟨hb,D⟩,λh=>absurd h is,λ_=>S⟩
   simp only[same]
  have stop:(¬((∀j,i<=j->j<al c.af.ii->lK c.jp.am (c.af.ii[j]!).2)/\bo c.jp.am c.io c.ae.bv (c.af.ii.drop i) ds))->dz (ds,c.af.ii,((al c.af.ii):Int),(i:Int),c.io.1,c.io.2,c.jp.am,c.af.aO,c.af.ii,c.ae.ai.aC,c.ae.ai.be,c.ae.ai.bi,c.ae.bv,c.ae.ax,c.kw)=KL (.done (.done 8))->au dz (ds,c.af.ii,((al c.af.ii):Int),(i:Int),c.io.1,c.io.2,c.jp.am,c.af.aO,c.af.ii,c.ae.ai.aC,c.ae.ai.be,c.ae.ai.bi,c.ae.bv,c.ae.ax,c.kw)=
   KL (.done (if(∀j,i<=j->j<al c.af.ii->lK c.jp.am (c.af.ii[j]!).2)/\bo c.jp.am c.io c.ae.bv (c.af.ii.drop i) ds then 0 else 8)):=by
   simp_all[EQ,ar]
  cases ds with
  |nil=>
   refine stop (λh=>?_) ?_
   ·rw[dr]at h
    obtain⟨d,GN,D,_⟩:=h.2.1 is;cases D
   unfold dz
   simp_all[ww,aq,aj,AC,NE]
  |cons d0 ds=>
   have l0:((((d0::ds).length:Nat):Int)==0)=Pg:=hO (by simp;omega);have g0:az (d0::ds) 0=KL d0:=rfl;have Gu: ∀P:Prop,(P↔d0.1=(c.af.ii[i]!).1/\(((cf c.jp.am (c.af.ii[i]!).2 c.io).1.1,(cf c.jp.am (c.af.ii[i]!).2 c.io).1.2,(c.af.ii[i]!).1,d0.2):Ev)∈c.ae.bv)-> ¬P-> ¬((∀j,i<=j->j<al c.af.ii->lK c.jp.am (c.af.ii[j]!).2)/\bo c.jp.am c.io c.ae.bv (c.af.ii.drop i) (d0::ds)):=by
    intro P hP hn h;rw[dr]at h;obtain⟨d,GN,D,S,h3,_⟩:=h.2.1 is
    grind
   by_cases b1:d0.1=(c.af.ii[i]!).1
   case neg=>refine stop (Gu (d0.1=(c.af.ii[i]!).1/\_) Mi (λh=>b1 h.1)) ?_;unfold dz;simp only[aB,e1,ww,aq c.af.ii i yD,aj,hw,is,show((0:Int) !=0)=Pg from rfl,AC,NE,l0,g0,cC b1]
   have ea:=aiK oH w2 (cf c.jp.am (c.af.ii[i]!).2 c.io).1 (c.af.ii[i]!).1 d0.2
   by_cases b2:d0.2.1<0
   ·refine stop (Gu (d0.1=(c.af.ii[i]!).1/\_) Mi (λh=>by have:=(ea.2 h.2).1;omega)) ?_
    unfold dz;simp only[aB,e1,ww,aq c.af.ii i yD,aj,hw,is,show((0:Int) !=0)=Pg from rfl,AC,NE,l0,g0,aY b1,aA b2]
   by_cases b3:200<=d0.2.1
   ·refine stop (Gu (d0.1=(c.af.ii[i]!).1/\_) Mi (λh=>by have:=(ea.2 h.2).2.1;omega)) ?_
    unfold dz;simp only[aB,e1,ww,aq c.af.ii i yD,aj,hw,is,show((0:Int) !=0)=Pg from rfl,AC,NE,l0,g0,aY b1,aF b2,aA b3]
   have gw:=fh (l:=c.ae.ax) (i:=d0.2.1) (by omega) (by omega)
   by_cases b4:c.ae.ax[d0.2.1.toNat]!<0
   ·refine stop (Gu (d0.1=(c.af.ii[i]!).1/\_) Mi (λh=>by have:=(ea.2 h.2).2.2.1;omega)) ?_
    unfold dz;simp only[aB,e1,ww,aq c.af.ii i yD,aj,hw,is,show((0:Int) !=0)=Pg from rfl,AC,NE,l0,g0,aY b1,aF b2,aF b3,gw,aA b4]
   have had:=fh (i:=c.ae.ax[d0.2.1.toNat]!) (by omega) (adB oH (by omega) (by omega));have sl:gQ (d0::ds) 1 ((((d0::ds).length:Nat):Int))=KL ds:=by unfold gQ;rw[Do ⟨by omega,by simp;omega,by omega⟩];simp
   have evq: ∀(e:Ev) (p:Int×Int) (n:Int) (h:Int×Int),((e.1==p.1)&&((e.2.1==p.2)&&((e.2.2.1==n)&&((e.2.2.2.1==h.1)&&(e.2.2.2.2==h.2)))))=D8 (e=(p.1,p.2,n,h)):=by
    intro e p n h;rw[SG,decide_eq_true_iff];simp only[Bool.and_eq_true,beq_iff_eq];constructor
    ·rintro⟨D,S,h3,h4,h5⟩
     exact KJ D (KJ S (KJ h3 (KJ h4 h5)))
    intro h;rw[h];exact⟨rfl,rfl,rfl,rfl,rfl⟩
   have aqu:=evq c.ae.bv[(c.ae.ax[d0.2.1.toNat]!).toNat]! (cf c.jp.am (c.af.ii[i]!).2 c.io).1 (c.af.ii[i]!).1 d0.2
   by_cases b5:c.ae.bv[(c.ae.ax[d0.2.1.toNat]!).toNat]! =((cf c.jp.am (c.af.ii[i]!).2 c.io).1.1,(cf c.jp.am (c.af.ii[i]!).2 c.io).1.2,(c.af.ii[i]!).1,d0.2)
   case neg=>refine stop (Gu (d0.1=(c.af.ii[i]!).1/\_) Mi (λh=>b5 (ea.2 h.2).2.2.2)) ?_;unfold dz;simp only[aB,e1,ww,aq c.af.ii i yD,aj,hw,is,show((0:Int) !=0)=Pg from rfl,AC,NE,l0,g0,aY b1,aF b2,aF b3,gw,aF b4,had];rw[aqu,aF b5];rfl
   have Lv:=ea.1 ⟨by omega,by omega,by omega,b5⟩;rw[aD (by unfold dz;simp only[aB,e1,ww,aq c.af.ii i yD,aj,hw,is,show((0:Int) !=0)=Pg from rfl,AC,NE,l0,g0,aY b1,aF b2,aF b3,gw,aF b4,had,sl,sc];rw[aqu,aA b5];rfl),ih (i+1) ds (by omega) (by omega) (by simp at GM;omega)];have same:((∀j,i<=j->j<al c.af.ii->lK c.jp.am (c.af.ii[j]!).2)/\bo c.jp.am c.io c.ae.bv (c.af.ii.drop i) (d0::ds))↔((∀j,i+1<=j->j<al c.af.ii->lK c.jp.am (c.af.ii[j]!).2)/\bo c.jp.am c.io c.ae.bv (c.af.ii.drop (i+1)) ds):=by
    rw[dr,all];constructor
    ·rintro⟨⟨_,D⟩,S⟩
     obtain⟨d,GN,k1,k2,k3,k4⟩:=S.1 is;injection k1 with k1 k5;subst k5;exact⟨D,k4⟩
    rintro⟨D,S⟩
    exact⟨⟨hb,D⟩,λ_=>⟨d0,ds,rfl,b1,Lv,S⟩,λh=>by rw[is]at h;cases h⟩
   simp only[same]
theorem aV.iff{c:aE}(fit:nm c):aV c↔bI c.io/\aS c.jp.am/\gN c.af/\gB c.ae/\al c.ae.ax=200/\al c.ae.bv=al c.kw/\(∀i,i<al c.af.ii->lK c.jp.am (c.af.ii[i]!).2)/\bo c.jp.am c.io c.ae.bv c.af.ii c.kw:=
 ⟨λh=>⟨h.ie,h.fD,h.vX,h.oH,h.NX,h.hd,h.known,h.Gu⟩,λ⟨D,S,h3,h4,h5,h6,h7,h8⟩=>⟨D,fit.cO,S,h3,h4,h5,h6,h7,h8⟩⟩
theorem aV.fit{c:aE}(ok:aV c):nm c:=⟨ok.cO,ok.oH.fit,by have:=ok.hd;have:=ok.oH.bd;omega⟩
theorem acx{c:aE}{n0 n1 n2 n3:Int}:
 au gS (4,0,c.io.1,c.io.2,c.jp.am,c.af.aO,c.af.ii,c.ae.ai.aC,c.ae.ai.be,c.ae.ai.bi,c.ae.bv,c.ae.ax,c.kw,[n0,n1,n2,n3])=
  if n0=0/\n1=0/\n2=0/\n3=0 then au gS (4,4,c.io.1,c.io.2,c.jp.am,c.af.aO,c.af.ii,c.ae.ai.aC,c.ae.ai.be,c.ae.ai.bi,c.ae.bv,c.ae.ax,c.kw,[n0,n1,n2,n3])else KL 8:=by
 have st: ∀(i:Nat) (n:Int),i<4->az [n0,n1,n2,n3] (i:Int)=KL n->au gS (4,(i:Int),c.io.1,c.io.2,c.jp.am,c.af.aO,c.af.ii,c.ae.ai.aC,c.ae.ai.be,c.ae.ai.bi,c.ae.bv,c.ae.ax,c.kw,[n0,n1,n2,n3])=
  if n=0 then au gS (4,((i+1:Nat):Int),c.io.1,c.io.2,c.jp.am,c.af.aO,c.af.ii,c.ae.ai.aC,c.ae.ai.be,c.ae.ai.bi,c.ae.bv,c.ae.ax,c.kw,[n0,n1,n2,n3])else KL 8:=by
  intro i n N hg;have e1:D8 ((i:Int)<4)=YF:=aA (by omega)
  by_cases h:n=0
  ·rw[Do h]
   refine aD ?_;unfold gS;simp (disch:=omega) only[e1,ww,hg,aj,aY h,AC,aN]
  rw[EQ h]
  refine ar ?_;unfold gS;simp[e1,hg,cC h]
 have s0:=st 0 n0 (by omega) rfl;have s1:=st 1 n1 (by omega) rfl;have s2:=st 2 n2 (by omega) rfl;have s3:=st 3 n3 (by omega) rfl
 grind
theorem iR{c:aE}(fit:nm c):fL c=KL (if aV c then 0 else 8):=by
 unfold fL;rw[bR fit.cO,fR,BN,mK _ fit.ag];simp only[aj];have h4:Int.ofNat [if bI c.io then(0:Int)else 8,z7 c.jp.am,if gN c.af then(0:Int)else 8,if gB c.ae then(0:Int)else 8].length=4:=rfl;rw[h4,acx];simp[eV];have f1:=aV.iff fit
 by_cases ok:bI c.io/\aS c.jp.am/\gN c.af/\gB c.ae
 case neg=>rw[EQ ok,EQ (λh=>ok ⟨h.ie,h.fD,h.vX,h.oH⟩)]
 obtain⟨ie,fD,vX,oH⟩:=ok;rw[Do ⟨ie,fD,vX,oH⟩]
 by_cases w2:(al c.ae.ax)=200
 case neg=>rw[EQ (c:=aV c) (λh=>w2 h.NX)];refine ar ?_;unfold gS;simp (disch:=omega) only[aB,aF,AC,cC,ww]
 by_cases hd:(al c.ae.bv)=al c.kw
 case neg=>rw[EQ (c:=aV c) (λh=>hd h.hd)];refine ar ?_;unfold gS;simp (disch:=omega) only[aB,aF,AC,aY,cC,ww]
 have run:=acw ie fit.cO fD vX oH w2 (al c.af.ii) 0 c.kw (by omega) (by omega) fit.du;have same:((∀j,0<=j->j<al c.af.ii->lK c.jp.am (c.af.ii[j]!).2)/\bo c.jp.am c.io c.ae.bv c.af.ii c.kw)↔aV c:=by
  rw[f1];constructor
  ·rintro⟨D,S⟩;exact⟨ie,fD,vX,oH,w2,hd,λi N=>D i (by omega) N,S⟩
  rintro⟨_,_,_,_,_,_,D,S⟩;exact⟨λj _ hj=>D j hj,S⟩
 refine ar ?_;unfold gS
 grind
theorem agQ{a:aM}(ok:gB a)(h:Int×Int):Dv a h=KL (if A8 a.ai h then(a.bv[(a.ax[h.1.toNat]!).toNat]!,0)else((0,0,0,0,0),6)):=by
 unfold Dv;rw[hw0 a ok.fit,Do ok,aje ok.so]
 by_cases lv:A8 a.ai h
 ·obtain⟨i,N,hw,hh⟩:=ok.live lv
  have:=lv.1;have:=lv.2.1;have:=ok.wl;rw[aA lv,Do lv,fh lv.1 (by omega),hw];simp[aq a.bv i N,]
 grind
theorem af9{c:aE}(cO:jo c.io)(fD:aS c.jp.am)(vX:gN c.af)(oH:gB c.ae)(w2:(al c.ae.ax)=200)(hdu:(al c.kw)<=1000000)
 (kn: ∀i,i<al c.af.ii->lK c.jp.am (c.af.ii[i]!).2):
 ∀(d i k:Nat),al c.af.ii-i<=d->i<=al c.af.ii->k<=al c.kw->
  au eF ((k:Int),(i:Int),c.io.1,c.io.2,c.jp.am,c.af.aO,c.af.ii,c.ae.ai.aC,c.ae.ai.be,c.ae.ai.bi,c.ae.bv,c.ae.ax,c.kw)=
   KL (if bo c.jp.am c.io c.ae.bv (c.af.ii.drop i) (c.kw.drop k)then 0 else 8):=by
 have I:=vX.len;have wl:=oH.wl;have fin: ∀k:Nat,k<=al c.kw->au eF ((k:Int),((al c.af.ii):Int),c.io.1,c.io.2,c.jp.am,c.af.aO,c.af.ii,c.ae.ai.aC,c.ae.ai.be,c.ae.ai.bi,c.ae.bv,c.ae.ax,c.kw)=KL (if bo c.jp.am c.io c.ae.bv (c.af.ii.drop (al c.af.ii)) (c.kw.drop k)then 0 else 8):=by
  intro k hk;rw[Ii];refine ar ?_;unfold eF;have e1:D8 (((al c.af.ii):Int)<((al c.af.ii):Int))=Pg:=aF (by omega);simp only[aB,e1,AC];have:bo c.jp.am c.io c.ae.bv [] (c.kw.drop k)↔k=(al c.kw):=by show c.kw.drop k=[]↔_;rw[Pc];omega
  grind
 intro d
 induction d with
 |zero=>
  grind
 |succ d ih=>
  intro i k hd N hk
  by_cases he:i=al c.af.ii
  ·subst he;exact fin k hk
  have yD:i<(al c.af.ii):=by omega
  have e1:D8 ((i:Int)<((al c.af.ii):Int))=YF:=aA (by omega);have hw:=BP fD cO (kn i yD);have dr:=zl yD;have sc:=aN (show i<1000000000 by omega);have acy:=aN (show k<1000000000 by omega)
  by_cases is:(cf c.jp.am (c.af.ii[i]!).2 c.io).2=YF
  case neg=>
   have Z4:(cf c.jp.am (c.af.ii[i]!).2 c.io).2=Pg:=by simpa using is
   rw[aD (y:=((k:Int),((i+1:Nat):Int),c.io.1,c.io.2,c.jp.am,c.af.aO,c.af.ii,c.ae.ai.aC,c.ae.ai.be,c.ae.ai.bi,c.ae.bv,c.ae.ax,c.kw)) (by unfold eF;simp only[aB,e1,ww,aq c.af.ii i yD,aj,hw,sc,Z4,EE]),ih (i+1) k (by omega) (by omega) hk];have same:bo c.jp.am c.io c.ae.bv (c.af.ii.drop i) (c.kw.drop k)↔bo c.jp.am c.io c.ae.bv (c.af.ii.drop (i+1)) (c.kw.drop k):=by rw[dr];exact⟨λh=>h.2 Z4,λh=>⟨λh'=>absurd h' is,λ_=>h⟩⟩
   simp only[same]
  have stop:(¬bo c.jp.am c.io c.ae.bv (c.af.ii.drop i) (c.kw.drop k))->eF ((k:Int),(i:Int),c.io.1,c.io.2,c.jp.am,c.af.aO,c.af.ii,c.ae.ai.aC,c.ae.ai.be,c.ae.ai.bi,c.ae.bv,c.ae.ax,c.kw)=KL (.done 8)->
   au eF ((k:Int),(i:Int),c.io.1,c.io.2,c.jp.am,c.af.aO,c.af.ii,c.ae.ai.aC,c.ae.ai.be,c.ae.ai.bi,c.ae.bv,c.ae.ax,c.kw)=KL (if bo c.jp.am c.io c.ae.bv (c.af.ii.drop i) (c.kw.drop k)then 0 else 8):=by
   intro D S;rw[EQ D];exact ar S
  by_cases Xk:k=al c.kw
  ·refine stop (λh=>?_) ?_
   ·rw[dr]at h
    obtain⟨d,GN,D,_⟩:=h.1 is;rw[Xk,Ii]at D;cases D
   unfold eF
   simp (disch:=omega) only[aB,e1,ww,aq c.af.ii i yD,aj,hw,is,NE,AC,aA]
  have OS:k<(al c.kw):=by omega
  have dk:=zl OS;have e2:D8 (((al c.kw):Int)<=(k:Int))=Pg:=aF (by omega);have Gu: ¬((c.kw[k]!).1=(c.af.ii[i]!).1/\(((cf c.jp.am (c.af.ii[i]!).2 c.io).1.1,(cf c.jp.am (c.af.ii[i]!).2 c.io).1.2,(c.af.ii[i]!).1,(c.kw[k]!).2):Ev)∈c.ae.bv)-> ¬bo c.jp.am c.io c.ae.bv (c.af.ii.drop i) (c.kw.drop k):=by intro hn h;rw[dr,dk]at h;obtain⟨d,GN,D,S,h3,_⟩:=h.1 is;injection D with D _;subst D;exact hn ⟨S,h3⟩
  by_cases b1:(c.kw[k]!).1=(c.af.ii[i]!).1
  case neg=>refine stop (Gu (λh=>b1 h.1)) ?_;unfold eF;simp only[aB,e1,ww,aq c.af.ii i yD,aj,hw,is,NE,AC,e2,aq c.kw k OS,cC b1]
  have af':=agQ oH (c.kw[k]!).2;have ea:=aiK oH w2 (cf c.jp.am (c.af.ii[i]!).2 c.io).1 (c.af.ii[i]!).1 (c.kw[k]!).2;have V2:=af'
  by_cases lv:A8 c.ae.ai (c.kw[k]!).2
  case neg=>
   rw[EQ lv]at V2;refine stop (Gu (λh=>lv ?_)) ?_
   ·obtain⟨w,Vx,nP⟩:=aU.1 h.2
    have:=(oH.handle Vx).1
    rwa [nP]at this
   unfold eF
   simp only[aB,e1,ww,aq c.af.ii i yD,aj,hw,is,NE,AC,e2,aq c.kw k OS,aY b1,V2,show((6:Int) !=0)=YF from rfl]
  rw[Do lv]at V2;obtain⟨w,Nn,Y7,hw3⟩:=oH.live lv;rw[Y7,PP]at V2;have q1:(0<=(c.kw[k]!).2.1/\(c.kw[k]!).2.1<200/\0<=c.ae.ax[(c.kw[k]!).2.1.toNat]!):=⟨lv.1,by have:=lv.2.1;omega,by rw[Y7];omega⟩
  by_cases b2:(c.ae.bv[w]!).2.2.1=(c.af.ii[i]!).1
  case neg=>
   refine stop (Gu (λh=>b2 ?_)) ?_
   ·have:=(ea.2 h.2).2.2.2
    rw[Y7,PP]at this;rw[this]
   unfold eF
   simp only[aB,e1,ww,aq c.af.ii i yD,aj,hw,is,NE,AC,e2,aq c.kw k OS,aY b1,V2,show((0:Int) !=0)=Pg from rfl,cC b2]
  have teq:((c.ae.bv[w]!).1==(cf c.jp.am (c.af.ii[i]!).2 c.io).1.1&&(c.ae.bv[w]!).2.1==(cf c.jp.am (c.af.ii[i]!).2 c.io).1.2)=D8 (((c.ae.bv[w]!).1,(c.ae.bv[w]!).2.1)=(cf c.jp.am (c.af.ii[i]!).2 c.io).1):=by
   rw[SG,decide_eq_true_iff];simp;constructor
   ·rintro⟨D,S⟩;exact KJ D S
   intro h;rw[<-h];exact⟨rfl,rfl⟩
  by_cases b3:((c.ae.bv[w]!).1,(c.ae.bv[w]!).2.1)=(cf c.jp.am (c.af.ii[i]!).2 c.io).1
  case neg=>
   refine stop (Gu (λh=>b3 ?_)) ?_
   ·have:=(ea.2 h.2).2.2.2
    rw[Y7,PP]at this;rw[this]
   unfold eF
   simp only[aB,e1,ww,aq c.af.ii i yD,aj,hw,is,NE,AC,e2,aq c.kw k OS,aY b1,V2,show((0:Int) !=0)=Pg from rfl,aY b2];rw[teq,aF b3];rfl
  have Lv:=ea.1 ⟨q1.1,q1.2.1,q1.2.2,by rw[Y7,PP];have t1:=congrArg Prod.fst b3;have t2:=congrArg Prod.snd b3;exact KJ t1 (KJ t2 (KJ b2 hw3))⟩;rw[aD (by unfold eF;simp only[aB,e1,ww,aq c.af.ii i yD,aj,hw,is,NE,AC,e2,aq c.kw k OS,aY b1,V2,show((0:Int) !=0)=Pg from rfl,aY b2,sc,acy];rw[teq,aA b3];rfl),ih (i+1) (k+1) (by omega) (by omega) (by omega)];have same:bo c.jp.am c.io c.ae.bv (c.af.ii.drop i) (c.kw.drop k)↔bo c.jp.am c.io c.ae.bv (c.af.ii.drop (i+1)) (c.kw.drop (k+1)):=by
   rw[dr,dk];constructor
   ·intro S
    obtain⟨d,GN,k1,k2,k3,k4⟩:=S.1 is;injection k1 with k1 k5;subst k5;exact k4
   intro S
   exact⟨λ_=>⟨_,_,rfl,b1,Lv,S⟩,λh=>by rw[is]at h;cases h⟩
  simp only[same]
theorem vM{c:aE}(fit:nm c):qI c=KL (if aV c then 0 else 8):=by
 unfold qI;rw[jL fit.cO,qS,hbl,hw0 _ fit.ag];simp
 by_cases ie:bI c.io
 case neg=>rw[EQ ie,EQ (c:=aV c) (λh=>ie h.ie)];rfl
 rw[Do ie]
 by_cases fD:aS c.jp.am
 case neg=>rw[cC (λh=>fD (eV.1 h)),EQ (c:=aV c) (λh=>fD h.fD)];rfl
 rw[aY (eV.2 fD)]
 by_cases vX:gN c.af
 case neg=>rw[EQ vX,EQ (c:=aV c) (λh=>vX h.vX)];rfl
 rw[Do vX];have kn:=adA c.af fD vX.len;simp only[kn,]
 by_cases known: ∀i,i<al c.af.ii->lK c.jp.am (c.af.ii[i]!).2
 case neg=>rw[aF known,EQ (c:=aV c) (λh=>known h.known)];rfl
 rw[aA known]
 by_cases oH:gB c.ae
 case neg=>rw[EQ oH,EQ (λh=>oH h.oH)];rfl
 rw[Do oH];simp[]
 by_cases w2:(al c.ae.ax)=200
 case neg=>rw[cC (by omega),EQ (λh=>w2 h.NX)];rfl
 rw[aY (by omega)]
 by_cases hd:(al c.ae.bv)=al c.kw
 case neg=>rw[cC (by omega),EQ (λh=>hd h.hd)];rfl
 have run:=af9 fit.cO fD vX oH w2 fit.du known (al c.af.ii) 0 0 (by omega) (by omega) (by omega);simp_all[aV.iff,]
section
variable {l : J Pt} {t : Int × Int}
theorem bo.mL{H:J Ev}{x:yc}{cs ds:J yc}(h:(cf l x.2 t).2=YF):bo l t H (x::cs) ds↔ ∃d GN,ds=d::GN/\d.1=x.1/\(((cf l x.2 t).1.1,(cf l x.2 t).1.2,x.1,d.2):Ev)∈H/\bo l t H cs GN:=
 ⟨λk=>k.1 h,λk=>⟨λ_=>k,λk'=>(by grind)⟩⟩
theorem bo.mq{H:J Ev}{x:yc}{cs ds:J yc}(h:(cf l x.2 t).2=Pg):bo l t H (x::cs) ds↔bo l t H cs ds:=
 ⟨λk=>k.2 h,λk=>⟨λk'=>(by grind),λ_=>k⟩⟩
theorem bo.mono{H H':J Ev}: ∀{cs ds:J yc},(∀x∈cs,∀e:Ev,e.num=x.1->e∈H->e∈H')->bo l t H cs ds->bo l t H' cs ds
 | [],_,_,h=>h
 |x::cs,ds,hm,h=>by
  have Iq: ∀y∈cs,∀e:Ev,e.num=y.1->e∈H->e∈H':=λy hy=>hm y (by simp[hy])
  cases X:(cf l x.2 t).2 with
  |true=>rw[bo.mL X]at h ⊢;obtain⟨d,GN,D,S,h3,h4⟩:=h;exact⟨d,GN,D,S,hm x (by simp) _ rfl h3,bo.mono Iq h4⟩
  |false=>rw[bo.mq X]at h ⊢;exact bo.mono Iq h
theorem bo.kw{H:J Ev}: ∀{cs ds:J yc},bo l t H cs ds-> ∀d∈ds,∃x∈cs,d.1=x.1/\(cf l x.2 t).2=YF/\(((cf l x.2 t).1.1,(cf l x.2 t).1.2,x.1,d.2):Ev)∈H
 | [],ds,h,d,hd=>by
  have:ds=[]:=h
  grind
 |x::cs,ds,h,d,hd=>by
  cases X:(cf l x.2 t).2 with
  |true=>
   rw[bo.mL X]at h;obtain⟨e,GN,D,S,h3,h4⟩:=h;subst D;rcases SH.1 hd with rfl|hd
   ·grind
   obtain⟨y,hy,k⟩:=bo.kw h4 d hd
   grind
  |false=>
   rw[bo.mq X]at h;obtain⟨y,hy,k⟩:=bo.kw h d hd
   grind
theorem bo.has{H:J Ev}: ∀{cs ds:J yc},bo l t H cs ds-> ∀x∈cs,(cf l x.2 t).2=YF-> ∃d∈ds,d.1=x.1/\(((cf l x.2 t).1.1,(cf l x.2 t).1.2,x.1,d.2):Ev)∈H
 | [],_,_,x,X,_=>by cases X
 |y::cs,ds,h,x,X,hf=>by
  cases hy:(cf l y.2 t).2 with
  |true=>
   rw[bo.mL hy]at h;obtain⟨e,GN,D,S,h3,h4⟩:=h;rcases SH.1 X with rfl|X
   ·grind
   obtain⟨d,hd,k⟩:=bo.has h4 x X hf
   grind
  |false=>
   rw[bo.mq hy]at h;rcases SH.1 X with rfl|X
   ·grind
   exact bo.has h x X hf
def Up(cs:J yc):Prop:=cs.Pairwise λx y=>x.1<y.1
theorem Ba{cs:J yc}:Up cs↔ ∀i j,i<j->j<al cs->(cs[i]!).1<(cs[j]!).1:=by
 unfold Up
 grind[List.pairwise_iff_getElem]
theorem bo.up{H:J Ev}: ∀{cs ds:J yc},bo l t H cs ds->Up cs->Up ds
 | [],ds,h,_=>by
  have:ds=[]:=h
  grind
 |x::cs,ds,h,hu=>by
  have KQ:=YI.1 hu;cases X:(cf l x.2 t).2 with
  |true=>
   rw[bo.mL X]at h;obtain⟨e,GN,D,S,h3,h4⟩:=h;subst D;refine YI.2 ⟨λd hd=>?_,bo.up h4 KQ.2⟩
   grind[bo.kw]
  |false=>rw[bo.mq X]at h;exact bo.up h KQ.2
theorem bo.snoc{H:J Ev}: ∀{cs ds:J yc} {x:yc},bo l t H cs ds->((cf l x.2 t).2=Pg->bo l t H (cs++[x]) ds)/\
 (∀d:yc,(cf l x.2 t).2=YF->d.1=x.1->(((cf l x.2 t).1.1,(cf l x.2 t).1.2,x.1,d.2):Ev)∈H->bo l t H (cs++[x]) (ds++[d]))
 | [],ds,x,h=>by
  have:ds=[]:=h
  grind[bo.mq,bo.mL]
 |y::cs,ds,x,h=>by
  cases hy:(cf l y.2 t).2 with
  |true=>
   rw[bo.mL hy]at h;obtain⟨e,GN,D,S,h3,h4⟩:=h;have ih:=bo.snoc (x:=x) h4
   grind[bo.mL]
  |false=>
   rw[bo.mq hy]at h;have ih:=bo.snoc (x:=x) h
   grind[bo.mq]
theorem bo.erase{H:J Ev}: ∀{cs ds:J yc} {i:Nat},bo l t H cs ds->i<al cs->((cf l (cs[i]!).2 t).2=Pg->bo l t H (cs.eraseIdx i) ds)/\
 ((cf l (cs[i]!).2 t).2=YF-> ∃k,k<al ds/\(ds[k]!).1=(cs[i]!).1/\(((cf l (cs[i]!).2 t).1.1,(cf l (cs[i]!).2 t).1.2,(cs[i]!).1,(ds[k]!).2):Ev)∈H/\bo l t H (cs.eraseIdx i) (ds.eraseIdx k))
 | [],_,i,_,N=>by cases N
 |y::cs,ds,0,h,_=>by refine⟨λhy=>(bo.mq hy).1 h,λhy=>?_⟩;obtain⟨e,GN,D,S,h3,h4⟩:=(bo.mL hy).1 h;subst D;exact⟨0,by simp,S,h3,h4⟩
 |y::cs,ds,i+1,h,N=>by
  have yD:i<(al cs):=by simpa using N
  cases hy:(cf l y.2 t).2 with
  |true=>obtain⟨e,GN,D,S,h3,h4⟩:=(bo.mL hy).1 h;subst D;have ih:=bo.erase h4 yD;refine⟨λX=>(bo.mL hy).2 ⟨e,GN,rfl,S,h3,ih.1 X⟩,λX=>?_⟩;obtain⟨k,k1,k2,k3,k4⟩:=ih.2 X;exact⟨k+1,by simp;omega,k2,k3,(bo.mL hy).2 ⟨e,GN.eraseIdx k,rfl,S,h3,k4⟩⟩
  |false=>
   have h:=(bo.mq hy).1 h;have ih:=bo.erase h yD
   grind[bo.mq]
end
theorem st0{H:J Ev}{ns:J Int}(hd:ns.Nodup)(I:(al H)<=al ns)(he: ∀n∈ns,∃e∈H,Ev.num e=n): ∀e∈H,Ev.num e∈ns:=by
 have pos: ∀n,n∈ns-> ∃w,w<al H/\Ev.num H[w]! =n:=λn hn=>by obtain⟨e,he,S⟩:=he n hn;obtain⟨w,hw,rfl⟩:=aU.1 he;exact⟨w,hw,S⟩
 let f:=λn=>if h: ∃w,w<al H/\Ev.num H[w]! =n then h.choose else 0
 have hf: ∀n∈ns,f n<al H/\Ev.num H[f n]! =n:=λn hn=>by have h:=pos n hn;show(if h: ∃w,w<al H/\Ev.num H[w]! =n then h.choose else 0)<_/\Ev.num H[(if h: ∃w,w<al H/\Ev.num H[w]! =n then h.choose else 0)]! =n;rw[dif_pos h];exact h.choose_spec
 have full:=aa4 (l:=ns.map f) (Gq hd λx X y hy h=>by
  have D:=(hf x X).2;have S:=(hf y hy).2;rw[h]at D;omega) (λx X=>by
  obtain⟨n,hn,rfl⟩:=Sw.1 X;exact(hf n hn).1) (by rw[Mq];exact I)
 intro e hm;obtain⟨w,hw,rfl⟩:=aU.1 hm
 grind
theorem ajp{cs:J yc}(h:Up cs):(cs.map λx=>x.1).Nodup:=by
 refine Gq ?_ ?_
 ·unfold Up at h
  exact h.imp λSb he=>by grind
 intro x X y hy he
 obtain⟨i,N,rfl⟩:=aU.1 X;obtain⟨j,hj,rfl⟩:=aU.1 hy;rcases YG i j with D|D|D
 ·have:=Ba.1 h i j D hj;omega
 ·rw[D]
 have:=Ba.1 h j i D N;omega
theorem aV.Aa{c:aE}(ok:aV c):Up c.af.ii:=Ba.2 ok.vX.up
theorem aV.RA{c:aE}(ok:aV c):Up c.kw:=ok.Gu.up ok.Aa
theorem aV.GD{c:aE}(ok:aV c): ∀e∈c.ae.bv,∃d∈c.kw,d.1=Ev.num e:=by
 have:=st0 (H:=c.ae.bv) (ajp ok.RA) (by rw[Mq,ok.hd];exact Y _) (λn hn=>by obtain⟨d,hd,rfl⟩:=Sw.1 hn;obtain⟨x,X,D,S,h3⟩:=ok.Gu.kw d hd;exact⟨_,h3,D.symm⟩)
 grind
end Go.Proofs.YtbelikaakgedaaaGreat
