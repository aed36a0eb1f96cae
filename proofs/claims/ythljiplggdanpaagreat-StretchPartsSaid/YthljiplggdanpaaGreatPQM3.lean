/- Plain laws (3). -/
import Derived.Test.YthljiplggdanpaaGreatPQM2
import Derived.Test.YthljiplggdanpaaGreatPQS3
open List renaming length_append->EQ,mem_cons_of_mem->If,length_map->PP,length_drop->WF,mem_append->aa9,length_cons->aaE,mem_cons_self->ab1,mem_map->aba,length_nil->abc,nodup_cons->abd,length_singleton->abe,length_set->abi,drop_zero->abk,length->abn
open Int renaming mul_right_comm->IR,mul_le_mul_of_nonneg_right->aaF,le_of_mul_le_mul_right->ab3,le_trans->abb,natAbs_mul->abl,mul_comm->abm
open Classical renaming byContradiction->NE,not_not->abg
open Bool renaming not_true->UV,and_self->abf,true->abu,false->abv
open Nat renaming lt_trichotomy->ab4,dvd_mul_left->abh,not_lt_zero->abj
open Option renaming some->abo
open Decidable renaming decide->abw
namespace Go.Proofs.YthljiplggdanpaaGreat
open Go.Vm Classical
theorem M6 {ds:List vY} (hu:Up ds) (hl:(abn ds)<=1000000) (n:Int):(∀k,k<abn ds->(ds[k]!).1=n->rH ds n=abo ((k:Int),abu))/\((∀k,k<abn ds->(ds[k]!).1≠n)-> ∃m:Nat,rH ds n=abo ((m:Int),abv)):=by
 have bs:=s8 ds n hl (yL.1 hu);unfold rH;rw [ag6];constructor
 · intro k hk he;rw [bs.1 k hk he];rfl
 intro h
 obtain ⟨m,_,_,_,e⟩:=bs.2 h;exact ⟨m,by rw [e];rfl⟩
theorem aQ.bd {c:aH} (ok:aQ c):(abn c.jp)<=200/\abn c.io.am<=64/\abn c.af.ce<=200:=by have:=ok.hd;have:=ok.oj.bd;have:=ok.eM.1;have:=ok.uw.len;omega
theorem lV {c:aH} (ok:aQ c):nH c=abo c:=by
 have bd:=ok.bd;have ab:=ok.oj.bd;have hl:=ok.oj.so.fl;have hn:=ok.oj.so.n2;have hu:=ok.oj.so.ul;unfold nH;simp only [cj (show (abn c.io.am)<=1048576 by omega),cj (show (abn c.af.ce)<=1048576 by omega),cj (show (abn c.jp)<=1048576 by omega),cj (show (abn c.ae.bv)<=1048576 by omega),cj (show (abn c.ae.aB)<=1048576 by omega),
  cj (show (abn c.ae.aj.aC)<=1048576 by omega),cj (show (abn c.ae.aj.be)<=1048576 by omega),cj (show (abn c.ae.aj.bi)<=1048576 by omega),ai]
theorem wV {cs:List vY} {i:Nat} (hu:Up cs) (hi:i<abn cs) {x:vY} (hx:x∈cs.eraseIdx i):x∈cs/\x.1≠(cs[i]!).1:=by
 rw [Gd,aa9] at hx;have ub:=yL.1 hu;rcases hx with hx|hx
 · obtain ⟨j,h1,h2,rfl⟩:=cE.1 hx
   have:=ub j i h1 hi;exact ⟨aK h2,by omega⟩
 obtain ⟨j,hj,rfl⟩:=aS.1 hx
 rw [WF] at hj;rw [zY];have:=ub i (i+1+j) (by omega) (by omega);exact ⟨aK (by omega),by omega⟩
theorem Ik {c:aH} (ok:aQ c) (i:Nat) (hi:i<abn c.af.ce): ∀j,j<(s9 c.af i).ce.length->j7 c.io.am ((s9 c.af i).ce[j]!).2:=by intro j hj;have hm:(s9 c.af i).ce[j]!∈c.af.ce:=(wV ok.xO hi (aK hj)).1;obtain ⟨m,hm1,hm2⟩:=aS.1 hm;rw [<- hm2];exact ok.known m hm1
theorem aao {c:aH} (ok:aQ c) {i:Nat} (hi:i<abn c.af.ce):
 ∃c':aH,lP c (c.af.ce[i]!).1=abo (c',(c.af.ce[i]!).2,0)/\aQ c'/\c'.io=c.io/\c'.ii=c.ii/\c'.af=s9 c.af i:=by
 have bd:=ok.bd;have rm:=KW ok.uw hi (n:=(c.af.ce[i]!).1) rfl;have fe:=ok.DK.erase (i:=i) hi;have pd:=M6 ok.OJ (by omega) (c.af.ce[i]!).1;cases hf:(bV c.io.am (c.af.ce[i]!).2 c.ii).2 with
 |false=>
  have no: ∀k,k<abn c.jp->(c.jp[k]!).1≠(c.af.ce[i]!).1:=by
   intro k hk he;obtain ⟨x,hx,h1,h2,_⟩:=ok.DK.jp _ (aK hk);obtain ⟨j,hj,rfl⟩:=aS.1 hx;have ub:=yL.1 ok.xO;have:j=i:=by
    rcases ab4 j i with h|h|h
    · have:=ub j i h hi;omega
    · exact h
    have:=ub i j h hj;omega
   rw [this,hf] at h2;cases h2
  refine ⟨⟨c.ii,c.io,s9 c.af i,c.ae,c.jp⟩,?_,?_,rfl,rfl,rfl⟩
  · unfold lP
    obtain ⟨m,e⟩:=pd.2 no;simp only [rm,ai,show ((0:Int) !=0)=abv from rfl,ww,lV ok,e]
  exact ⟨ok.hZ,ok.dw,ok.eM,KV ok.uw hi,ok.oj,ok.KX,ok.hd,Ik ok i hi,fe.1 hf⟩
 |true=>
  obtain ⟨k,hk,k1,k2,k3⟩:=fe.2 hf;obtain ⟨w,hw,mg⟩:=aS.1 k2;have hh:(c.ae.bv[w]!).2.2.2=(c.jp[k]!).2:=by rw [mg]
  have ub:=yL.1 ok.OJ;have dl:(c.jp.eraseIdx k).length=abn c.jp-1:=Ge hk;obtain ⟨L,d1,d2⟩:=CX c.jp k hk;refine ⟨⟨c.ii,c.io,s9 c.af i,fV c.ae w,c.jp.eraseIdx k⟩,?_,?_,rfl,rfl,rfl⟩
  · unfold lP
    simp only [rm,ai,show ((0:Int) !=0)=abv from rfl,ww,lV ok,pd.1 k hk k1,v6,ar c.jp k hk,Aa ok.oj hw ok.oj.fit hh,aM (show k<1000000000 by omega),Ts,d1,d2]
  have rem:=Ht ok.oj hw
  have aap:=KN ok.oj hw;have eT:(fV c.ae w).bv.length=abn c.ae.bv-1:=by
   have h1:=rem.hl;have h2:=ok.oj.hl;have h3:(fV c.ae w).aj=qO c.ae.aj (c.ae.bv[w]!).2.2.2:=by unfold fV;split<;>rfl
   rw [h3] at h1;change _+(c.ae.aj.bi++[_]).length=(abn c.ae.aj.aC) at h1;rw [EQ] at h1;simp only [aaE,abc] at h1;omega
  have ag8:(fV c.ae w).aB.length=200:=by
   have h1:=rem.wl;have h3:(fV c.ae w).aj=qO c.ae.aj (c.ae.bv[w]!).2.2.2:=by unfold fV;split<;>rfl
   rw [h3] at h1;change _=(abn c.ae.aj.aC) at h1;rw [h1,<- ok.oj.wl,ok.KX]
  refine ⟨ok.hZ,ok.dw,ok.eM,KV ok.uw hi,rem,ag8,?_,Ik ok i hi,?_⟩
  · show (fV c.ae w).bv.length=(c.jp.eraseIdx k).length
    rw [eT,dl,ok.hd]
  refine k3.mono fun x hx e he hm=>(aap e).2 ⟨hm,fun h=>?_⟩
  have:=(wV ok.xO hi hx).2;rw [h,mg] at he;exact this he.symm
theorem IN {c:aH} (ok:aQ c) {i:Nat} (_hi:i<abn c.af.ce) {c':aH} (h:lP c (c.af.ce[i]!).1=abo (c',(c.af.ce[i]!).2,0)):wQ c (c.af.ce[i]!).1=abo (c',0):=by unfold wQ;rw [ia ok.fit,AC ok];simp only [ai,show ((0:Int) !=0)=abv from rfl,ww,h]
abbrev cS:aH:=⟨(0,0),⟨[]⟩,⟨0,[]⟩,⟨⟨[],[],[]⟩,[],[]⟩,[]⟩
theorem OK {l:List Pt} (ok:aT l) {id:Int} (h:dO l id): ¬(bm l id).1<0:=by obtain ⟨h1,_⟩:=bT ok h;have:=h1.1;omega
theorem ac' {c:aH} (ok:aQ c) {x:Int×Int} (hx:jq x) (hb:j7 c.io.am x) (hn: ¬qR c.af.ce x):
 (jV c x=abo (cS,0,18)/\(KU c.af\/ ¬F8 c.ae.aj))\/
 ∃c':aH,jV c x=abo (c',c.af.aU,0)/\aQ c'/\c'.io=c.io/\c'.ii=c.ii/\c'.af=vd c.af x/\(c'.ae.aj=c.ae.aj\/c'.ae.aj=qP c.ae.aj):=by
 have bd:=ok.bd;have n0:=ok.uw.n0;have n1:=ok.uw.n1;have fit:=ok.fit;have ad:=Q' ok.uw hx;have hc:fj c=abo 0:=by rw [ia fit,AC ok]
 have p1:=pg ok.eM x.1;have p2:=pg ok.eM x.2;have q1:=OK ok.eM hb.1;have q2:=OK ok.eM hb.2;have wh:=zo ok.eM hx ok.hZ ok.dw
 by_cases hf:KU c.af
 · rw [AC hf] at ad
   left;refine ⟨?_,.inl hf⟩
   unfold jV dS
   simp_all [az,]
 have cok:=Tu ok.uw hx hn hf;have aaq: ∀j,j<(vd c.af x).ce.length->j7 c.io.am ((vd c.af x).ce[j]!).2:=by
  intro j hj;rw [DJ] at hj;rw [xN]
  by_cases h:j<abn c.af.ce
  · rw [AC h];exact ok.known j h
  grind
 have fresh: ∀e∈c.ae.bv,Ev.num e≠c.af.aU:=by intro e he fy;obtain ⟨d,hd,h1⟩:=ok.DS e he;obtain ⟨y,hy,h2,_⟩:=ok.DK.jp d hd;obtain ⟨j,hj,rfl⟩:=aS.1 hy;have:=(ok.uw.nr j hj).2;omega
 have sn:=ok.DK.snoc (x:=(c.af.aU,x));cases hw:(bV c.io.am x c.ii).2 with
 |false=>
  right;refine ⟨⟨c.ii,c.io,vd c.af x,c.ae,c.jp⟩,?_,⟨ok.hZ,ok.dw,ok.eM,cok,ok.oj,ok.KX,ok.hd,aaq,sn.1 hw⟩,rfl,rfl,rfl,.inl rfl⟩
  unfold jV dS
  simp_all [az,lV]
 |true=>
  obtain ⟨t1,t2⟩:=F7 (bT ok.eM hb.2).1 (bT ok.eM hb.1).1 ok.dw ok.hZ hw
  by_cases op:F8 c.ae.aj
  · right
    have pu:=z7 ok.oj op ok.oj.fit (t:=(bV c.io.am x c.ii).1) t1 t2 n0 n1 fresh;have pok:=UY ok.oj op (t:=(bV c.io.am x c.ii).1) t1 t2 n0 n1 fresh;have WV:=Q8 ok.oj op (n:=c.af.aU) t1;have ag':=Gc ok.oj op (t:=(bV c.io.am x c.ii).1) (n:=c.af.aU) t1;have ap: ∀h:Int×Int,aX c.jp [(c.af.aU,h)]=abo _:=fun h=>bA (by simp;omega)
    have ag8:(s7 c.ae (bV c.io.am x c.ii).1 c.af.aU).aB.length=200:=by have:=pok.wl;change _=(c.ae.aj.aC.set _ _).length at this;rw [abi] at this;rw [this,<- ok.oj.wl,ok.KX]
    refine ⟨⟨c.ii,c.io,vd c.af x,s7 c.ae _ c.af.aU,c.jp++[(c.af.aU,wU c.ae.aj)]⟩,?_,⟨ok.hZ,ok.dw,ok.eM,cok,pok,ag8,?_,aaq,?_⟩,rfl,rfl,rfl,.inr rfl⟩
    · unfold jV dS
      simp_all [az,lV,]
    · show (s7 c.ae _ c.af.aU).bv.length=(c.jp++[_]).length
      rw [ag',EQ,ok.hd];rfl
    have fm:=ok.DK.mono fun y hy e he hm=>(WV e).2 (.inr hm)
    exact (fm.snoc).2 _ hw rfl ((WV _).2 (.inl rfl))
  left
  have pu:=z8 ok.oj op ok.oj.fit (t:=(bV c.io.am x c.ii).1) t1 t2 n0 n1 fresh
  unfold jV dS
  simp_all [az,lV,]
theorem Up.inj {cs:List vY} (h:Up cs) {x y:vY} (hx:x∈cs) (hy:y∈cs) (he:x.1=y.1):x=y:=by
 obtain ⟨i,hi,rfl⟩:=aS.1 hx;obtain ⟨j,hj,rfl⟩:=aS.1 hy;have ub:=yL.1 h;rcases ab4 i j with h1|h1|h1
 · have:=ub i j h1 hj;omega
 · rw [h1]
 grind
structure KY (c:aH) (f:List Pt) (i k:Nat) (a:aV) (ds:List vY):Prop where
 ok:fP a
 w2:(abn a.aB)=200
 new:bk f c.ii a.bv (c.af.ce.take i) ds
 old:bk c.io.am c.ii a.bv (c.af.ce.drop i) (c.jp.drop k)
 kl:k<=abn c.jp
 cnt:(abn a.bv)=abn ds+(abn c.jp-k)
theorem aha {a:aV} (ok:fP a) {w:Nat} (hw:w<abn a.bv):(fV a w).bv.length=abn a.bv-1/\(fV a w).aB.length=(abn a.aB):=by
 have rem:=Ht ok hw;have h3:(fV a w).aj=qO a.aj (a.bv[w]!).2.2.2:=by unfold fV;split<;>rfl
 have h1:=rem.hl;have h2:=ok.hl;have h4:=rem.wl;rw [h3] at h1 h4;change _+(a.aj.bi++[_]).length=(abn a.aj.aC) at h1;change _=(abn a.aj.aC) at h4;simp [] at h1;exact ⟨by omega,by rw [h4,ok.wl]⟩
theorem ada {a:aV} {t:Int×Int} {n:Int} (ok:fP a) (pok:fP (s7 a t n)):(s7 a t n).aB.length=(abn a.aB):=by have:=pok.wl;change _=(a.aj.aC.set _ _).length at this;rw [abi] at this;rw [this,ok.wl]
section
variable {c : aH} (ok : aQ c) {f : List Pt} (bc : aT f) (kn : ∀ i, i < (abn c.af.ce) -> j7 f (c.af.ce[i]!).2)
include ok
theorem Gf {i:Nat} {x:vY} (hx:x∈c.af.ce.take i) (hi:i<abn c.af.ce):x.1≠(c.af.ce[i]!).1:=by obtain ⟨j,h1,h2,rfl⟩:=cE.1 hx;have:=ok.uw.up j i h1 hi;omega
theorem Gg {i:Nat} {x:vY} (hx:x∈c.af.ce.drop (i+1)) (hi:i<abn c.af.ce):x.1≠(c.af.ce[i]!).1:=by obtain ⟨j,h1,rfl⟩:=aS.1 hx;rw [WF] at h1;rw [zY];have:=ok.uw.up i (i+1+j) (by omega) (by omega);omega
theorem WW {i k:Nat} {a:aV} {ds:List vY} (inv:KY c f i k a ds) (hi:i<abn c.af.ce) (was:(bV c.io.am (c.af.ce[i]!).2 c.ii).2=abv): ∀e∈a.bv,Ev.num e≠(c.af.ce[i]!).1:=by
 have u1:Up (c.af.ce.take i):=ok.xO.sublist (List.take_sublist _ _);have u2:Up (c.af.ce.drop i):=ok.xO.sublist (List.drop_sublist _ _);have d1:=inv.new.up u1;have d2:=inv.old.up u2;have alN: ∀x∈ds,∀y∈c.jp.drop k,x.1<y.1:=by intro x hx y hy;obtain ⟨p,hp,h1,_⟩:=inv.new.jp x hx;obtain ⟨q,hq,h2,_⟩:=inv.old.jp y hy;obtain ⟨m,m1,m2,rfl⟩:=cE.1 hp;obtain ⟨n,n1,rfl⟩:=aS.1 hq;rw [WF] at n1;rw [zY] at h2;have:=ok.uw.up m (i+n) (by omega) (by omega);omega
 have nd:=Re (by show List.Pairwise _ _;rw [List.pairwise_append];exact ⟨d1,d2,alN⟩);have only:=Ij (H:=a.bv) nd (by rw [PP,EQ,WF,inv.cnt];omega) (fun n hn=>by
  obtain ⟨x,hx,rfl⟩:=aba.1 hn;rcases aa9.1 hx with hx|hx
  · obtain ⟨p,hp,h1,h2,h3⟩:=inv.new.jp x hx
    grind
  obtain ⟨p,hp,h1,h2,h3⟩:=inv.old.jp x hx
  grind)
 intro e he fy;obtain ⟨x,hx,h1⟩:=aba.1 (only e he);rcases aa9.1 hx with hx|hx
 · obtain ⟨p,hp,h2,_⟩:=inv.new.jp x hx
   grind [Gf]
 obtain ⟨p,hp,h2,h3,_⟩:=inv.old.jp x hx
 have hp':=List.mem_of_mem_drop hp;have:=ok.xO.inj hp' (aK hi) (by rw [<- h2,h1,fy])
 grind
def WX (c:aH) (f:List Pt) (i:Nat) (a:aV) (ds:List vY):=
 (c.af.ce,((abn c.af.ce):Int),(i:Int),c.ii.1,c.ii.2,c.io.am,c.af.aU,c.af.ce,c.ae.aj.aC,c.ae.aj.be,c.ae.aj.bi,c.ae.bv,c.ae.aB,c.jp,f,(0:Int),(0:Int),(0:Int),c.ii.1,c.ii.2,c.af.aU,c.af.ce,a.aj.aC,a.aj.be,a.aj.bi,a.bv,a.aB,f,ds)
include bc kn
theorem aar {i k:Nat} {a:aV} {ds:List vY} (inv:KY c f i k a ds) (hi:i<abn c.af.ce) (hds:(abn ds)<=i):
 (dW (WX c f i a ds)=abo (.done (.done (cS,18))))\/
 ∃k' a' EB,dW (WX c f i a ds)=abo (.next (WX c f (i+1) a' EB))/\KY c f (i+1) k' a' EB/\abn EB<=i+1:=by
 have bd:=ok.bd;have e1:abw ((i:Int)<((abn c.af.ce):Int))=abu:=ay (by omega);have sc:=aM (show i<1000000000 by omega);have cg:=ar c.af.ce i hi;have hb:=kn i hi;have wn:=zo bc (ok.uw.cv i hi) ok.hZ ok.dw;rw [AC hb] at wn;have pd:=M6 ok.OJ (by omega) (c.af.ce[i]!).1;have dr:=w9 hi;have tk:=dG hi;have old:=inv.old;rw [dr] at old;have adb:aV.mk (bD.mk a.aj.aC a.aj.be a.aj.bi) a.bv a.aB=a:=rfl;have other: ∀x∈c.af.ce.take i,x.1≠(c.af.ce[i]!).1:=fun x hx=>Gf ok hx hi
 have aas: ∀x∈c.af.ce.drop (i+1),x.1≠(c.af.ce[i]!).1:=fun x hx=>Gg ok hx hi
 cases ade:(bV c.io.am (c.af.ce[i]!).2 c.ii).2 with
 |true=>
  obtain ⟨d,EB,hd1,hd2,hd3,hd4⟩:=(bk.lq ade).1 old;have hk:k<(abn c.jp):=by
   refine NE fun h=>?_
   grind [List.drop_eq_nil_of_le]
  have dk:=w9 hk;rw [dk] at hd1;injection hd1 with hd5 hd6;subst hd5 hd6;obtain ⟨w,hw,mg⟩:=aS.1 hd3;have hh:(a.bv[w]!).2.2.2=(c.jp[k]!).2:=by rw [mg]
  have atb:Ev.num a.bv[w]! =(c.af.ce[i]!).1:=by rw [mg]
  have pl:=pd.1 k hk hd2;have gk:=ar c.jp k hk;have ap:aX ds [c.jp[k]!]=abo (ds++[c.jp[k]!]):=bA (by simp;omega);cases XJ:(bV f (c.af.ce[i]!).2 c.ii).2 with
  |true=>
   right;have tt:bu (bV f (c.af.ce[i]!).2 c.ii).1/\jb (bV f (c.af.ce[i]!).2 c.ii).1:=F7 (bT bc hb.2).1 (bT bc hb.1).1 ok.dw ok.hZ XJ;obtain ⟨t1,t2⟩:=tt;have re:=IM inv.ok inv.ok.fit hw hh t1 t2;have rok:=aai inv.ok hw t1 t2;have aap:=WR inv.ok hw t1;have aat:=Hr inv.ok hw t1;have stay: ∀(cs:List vY),(∀x∈cs,x.1≠(c.af.ce[i]!).1)-> ∀x∈cs,∀e:Ev,e.num=x.1->e∈a.bv->e∈(pP a w (bV f (c.af.ce[i]!).2 c.ii).1).bv:=by
    grind
   refine ⟨k+1,pP a w (bV f (c.af.ce[i]!).2 c.ii).1,ds++[c.jp[k]!],?_,⟨rok,by rw [aat.2];exact inv.w2,?_,?_,by omega,?_⟩,by simp;omega⟩
   · unfold dW WX
     simp only [e1,v6,cg,ai,wn,pl,XJ,gk,adb,re,ap,show ((0:Int) !=0)=abv from rfl,ww,sc]
   · rw [tk]
     exact ((inv.new.mono (stay _ other)).snoc).2 _ XJ hd2 ((aap _).2 (.inl (by show _=((bV f (c.af.ce[i]!).2 c.ii).1.1,(bV f (c.af.ce[i]!).2 c.ii).1.2,(a.bv[w]!).2.2);rw [mg])))
   · exact hd4.mono (stay _ aas)
   rw [aat.1,inv.cnt,EQ]
   simp only [aaE,abc];omega
  |false=>
   right;have rv:=Aa inv.ok hw inv.ok.fit hh;have rok:=Ht inv.ok hw;have aap:=KN inv.ok hw;have aat:=aha inv.ok hw;have stay: ∀(cs:List vY),(∀x∈cs,x.1≠(c.af.ce[i]!).1)-> ∀x∈cs,∀e:Ev,e.num=x.1->e∈a.bv->e∈(fV a w).bv:=by intro cs wB x hx e he hm;refine (aap e).2 ⟨hm,fun h=>wB x hx ?_⟩;rw [<- he,h,atb]
   refine ⟨k+1,fV a w,ds,?_,⟨rok,by rw [aat.2];exact inv.w2,?_,hd4.mono (stay _ aas),by omega,?_⟩,by omega⟩
   · unfold dW WX
     simp only [e1,v6,cg,ai,wn,pl,XJ,gk,adb,rv,show ((0:Int) !=0)=abv from rfl,ww,sc]
   · rw [tk]
     exact ((inv.new.mono (stay _ other)).snoc).1 XJ
   have:=inv.cnt
   rw [aat.1];omega
 |false=>
  have DK:=(bk.kO ade).1 old;have no: ∀j,j<abn c.jp->(c.jp[j]!).1≠(c.af.ce[i]!).1:=by intro j hj he;obtain ⟨x,hx,h1,h2,_⟩:=ok.DK.jp _ (aK hj);have:=ok.xO.inj hx (aK hi) (by rw [<- h1,he]);rw [this,ade] at h2;cases h2
  obtain ⟨m,pl⟩:=pd.2 no;cases XJ:(bV f (c.af.ce[i]!).2 c.ii).2 with
  |true=>
   have tt:bu (bV f (c.af.ce[i]!).2 c.ii).1/\jb (bV f (c.af.ce[i]!).2 c.ii).1:=F7 (bT bc hb.2).1 (bT bc hb.1).1 ok.dw ok.hZ XJ;obtain ⟨t1,t2⟩:=tt;have n0:=(ok.uw.nr i hi).1;have n1:(c.af.ce[i]!).1<=1000000:=by have:=(ok.uw.nr i hi).2;have:=ok.uw.n1;omega
   have fresh:=WW ok inv hi ade
   by_cases op:F8 a.aj
   · right
     have pu:=z7 inv.ok op inv.ok.fit t1 t2 n0 n1 fresh;have pok:=UY inv.ok op t1 t2 n0 n1 fresh;have WV:=Q8 inv.ok op (n:=(c.af.ce[i]!).1) t1;have ag':=Gc inv.ok op (n:=(c.af.ce[i]!).1) t1;have ap: ∀h:Int×Int,aX ds [((c.af.ce[i]!).1,h)]=abo (ds++[((c.af.ce[i]!).1,h)]):=fun h=>bA (by simp;omega)
     refine ⟨k,s7 a (bV f (c.af.ce[i]!).2 c.ii).1 (c.af.ce[i]!).1,ds++[((c.af.ce[i]!).1,wU a.aj)],?_,⟨pok,by rw [ada inv.ok pok];exact inv.w2,?_,?_,inv.kl,?_⟩,by simp;omega⟩
     · unfold dW WX
       simp only [e1,v6,cg,ai,wn,pl,XJ,adb,pu,ap,show ((0:Int) !=0)=abv from rfl,ww,sc]
     · rw [tk]
       exact ((inv.new.mono fun x hx e he hm=>(WV e).2 (.inr hm)).snoc).2 _ XJ rfl ((WV _).2 (.inl rfl))
     · exact DK.mono fun x hx e he hm=>(WV e).2 (.inr hm)
     have:=inv.cnt
     rw [ag',EQ];simp only [aaE,abc];omega
   left
   have pu:=z8 inv.ok op inv.ok.fit t1 t2 n0 n1 fresh;have ap: ∀h:Int×Int,aX ds [((c.af.ce[i]!).1,h)]=abo (ds++[((c.af.ce[i]!).1,h)]):=fun h=>bA (by simp;omega)
   unfold dW WX;simp only [e1,v6,cg,ai,wn,pl,XJ,adb,pu,ap,show ((18:Int) !=0)=abu from rfl,ww]
  |false=>
   right;refine ⟨k,a,ds,?_,⟨inv.ok,inv.w2,?_,DK,inv.kl,inv.cnt⟩,by omega⟩
   · unfold dW WX
     simp only [e1,v6,cg,ai,wn,pl,XJ,show ((0:Int) !=0)=abv from rfl,ww,sc]
   rw [tk]
   exact (inv.new.snoc).1 XJ
theorem alO:
 rI c ⟨f⟩=abo (cS,18)\/
 ∃c':aH,rI c ⟨f⟩=abo (c',0)/\aQ c'/\c'.io.am=f/\c'.ii=c.ii/\c'.af=c.af:=by
 have bd:=ok.bd;have f64:=bc.1;have run: ∀(d i k:Nat) (a:aV) (ds:List vY),abn c.af.ce-i<=d->i<=abn c.af.ce->KY c f i k a ds->abn ds<=i->
  aq dW (WX c f i a ds)=abo (.done (cS,18))\/
  ∃c':aH,aq dW (WX c f i a ds)=abo (.done (c',0))/\aQ c'/\c'.io.am=f/\c'.ii=c.ii/\c'.af=c.af:=by
  have fin: ∀(k:Nat) (a:aV) (ds:List vY),KY c f (abn c.af.ce) k a ds-> ∃c':aH,aq dW (WX c f (abn c.af.ce) a ds)=abo (.done (c',0))/\aQ c'/\c'.io.am=f/\c'.ii=c.ii/\c'.af=c.af:=by
   intro k a ds inv;have hk:(abn c.jp)-k=0:=by have:=inv.old;rw [List.drop_length] at this;have:c.jp.drop k=[]:=this;rw [List.drop_eq_nil_iff] at this;omega
   have new:=inv.new;rw [List.take_length] at new;refine ⟨⟨c.ii,⟨f⟩,c.af,a,ds⟩,au ?_,⟨ok.hZ,ok.dw,bc,ok.uw,inv.ok,inv.w2,?_,kn,new⟩,rfl,rfl,rfl⟩
   · unfold dW WX
     simp
   have:=inv.cnt
   show (abn a.bv)=abn ds;omega
  intro d
  induction d with
  |zero=>
   intro i k a ds hd hi inv hds;have:i=(abn c.af.ce):=by omega
   subst this;exact .inr (fin k a ds inv)
  |succ d ih=>
   intro i k a ds hd hi inv hds
   by_cases he:i=abn c.af.ce
   · subst he;exact .inr (fin k a ds inv)
   rcases aar ok bc kn inv (by omega) hds with h1|⟨k',a',EB,h1,h3,h4⟩
   · exact .inl (au h1)
   rw [aJ h1]
   exact ih _ k' a' EB (by omega) (by omega) h3 h4
 have start:=run (abn c.af.ce) 0 0 c.ae [] (by omega) (by omega) ⟨ok.oj,ok.KX,rfl,by rw [abk,abk];exact ok.DK,by omega,by have:=ok.hd;simp;omega⟩ (by simp);have hc:fj c=abo 0:=by rw [ia ok.fit,AC ok]
 have hf:cY ⟨f⟩=abo 0:=by rw [fq];exact congrArg abo (gF.2 bc)
 have tw:=lV ok;have tw':=tw;have first:aq oX (c.af.ce,((abn c.af.ce):Int),0,c.ii.1,c.ii.2,c.io.am,c.af.aU,c.af.ce,c.ae.aj.aC,c.ae.aj.be,c.ae.aj.bi,c.ae.bv,c.ae.aB,c.jp,f,0,0,0)=
  aq oX (c.af.ce,((abn c.af.ce):Int),((abn c.af.ce):Int),c.ii.1,c.ii.2,c.io.am,c.af.aU,c.af.ce,c.ae.aj.aC,c.ae.aj.be,c.ae.aj.bi,c.ae.bv,c.ae.aB,c.jp,f,0,0,0):=by
  refine bg (fun i=>(c.af.ce,((abn c.af.ce):Int),(i:Int),c.ii.1,c.ii.2,c.io.am,c.af.aU,c.af.ce,c.ae.aj.aC,c.ae.aj.be,c.ae.aj.bi,c.ae.bv,c.ae.aB,c.jp,f,0,0,0)) (abn c.af.ce) (fun i hi=>?_);have e1:abw ((i:Int)<((abn c.af.ce):Int))=abu:=ay (by omega);unfold oX;simp (disch:=omega) only [e1,v6,ar c.af.ce i hi,ai,pg bc,az (OK bc (kn i hi).1),az (OK bc (kn i hi).2),ww,aM]
 have atd: ∀r,aq dW (WX c f 0 c.ae [])=abo (.done r)->rI c ⟨f⟩=abo r:=by intro r hr;unfold rI;simp [hc,hf,];rw [first];refine au ?_;unfold oX;have e1:abw (((abn c.af.ce):Int)<((abn c.af.ce):Int))=abv:=az (by omega);simp (disch:=omega) only [e1,tw',cj];exact hr
 grind
end
theorem jX (l:List _) (x:Int×Int) (hl:(abn l)<=1000000):dD l x=abo (abw (x∈l)):=by
 unfold dD sN;have key:=pf (body:=lG) (fun i=>(l,((abn l):Int),(i:Int),x)) (abn l) (fun i=>l[i]! =x) (fun i=>(i:Int)) (e:= -1) (fun i hi=>by
  have e1:abw ((i:Int)<((abn l):Int))=abu:=ay (by omega);unfold lG;simp (disch:=omega) only [e1,ar l i hi,ai,aM];generalize l[i]! =y;constructor
  · intro h;rw [lL (congrArg Prod.fst h.symm),lL (congrArg Prod.snd h.symm)];rfl
  · intro h
    by_cases h1:x.1=y.1
    · rw [lL h1,jm (fun h2=>h (Prod.ext h1.symm h2.symm))];rfl
    rw [jm h1];rfl) (by
  unfold lG;simp)
 rw [aF]
 by_cases hx:x∈l
 · obtain ⟨i,hi,he⟩:=aS.1 hx
   obtain ⟨k,h1,h2,h3⟩:=least (c:=fun i=>l[i]! =x) ⟨i,hi,he⟩;have:=key.1 k h1 h2 h3;rw [show ((0:Nat):Int)=0 from rfl] at this;rw [this,ay hx];simp (disch:=omega) only [ai,ay]
 grind
theorem Rf (a b:List vY) (hl:(abn a)<=1000000):tZ ⟨a⟩ ⟨b⟩=abo (abw (a=b)):=by
 unfold tZ;simp []
 by_cases h:(abn a)=abn b
 case neg=>rw [db (by omega),az (fun k=>h (by rw [k]))];rfl
 rw [aY (by omega)];simp;have key:=dZ (body:=uL) (fun i=>((i:Int),a,b)) (abn a) (fun i=> ¬a[i]! =b[i]!) (r:=abv) (e:=abu) (fun i hi=>by
  have e1:=ay (by omega);unfold uL;simp (disch:=omega) only [ar,aM,]
  grind) (by
  unfold uL;simp)
 by_cases he:a=b
 · grind
 rw [az he]
 refine key.1 (NE fun hx=>he (mW h fun i hi=>?_))
 grind
theorem Bj (a b:List vY) (hl:(abn a)<=1000000):kJ a b=abo (abw (a=b)):=by
 unfold kJ;simp []
 by_cases h:(abn a)=abn b
 case neg=>rw [db (by omega),az (fun k=>h (by rw [k]))];rfl
 rw [aY (by omega)];simp;have key:=dZ (body:=kW) (fun i=>(a,b,((abn a):Int),(i:Int))) (abn a) (fun i=> ¬a[i]! =b[i]!) (r:=abv) (e:=abu) (fun i hi=>by
  have e1:=ay (by omega);unfold kW;simp (disch:=omega) only [ar,aM,]
  grind) (by
  unfold kW;simp)
 by_cases he:a=b
 · grind
 rw [az he]
 refine key.1 (NE fun hx=>he (mW h fun i hi=>?_))
 grind
theorem WY {cs:List vY} {m:Nat} {x:vY} (hx:x∈cs) (fy:x.1≠(cs[m]!).1):x∈cs.eraseIdx m:=by
 obtain ⟨j,hj,rfl⟩:=aS.1 hx;have hjm:j≠m:=fun h=>fy (by rw [h])
 rw [Gd,aa9]
 by_cases h:j<m
 · exact .inl (cE.2 ⟨j,h,hj,rfl⟩)
 right
 rw [aS];refine ⟨j- (m+1),by rw [WF];omega,?_⟩
 grind
def kP (c0:aH) (f:List Pt) (es:List (Int×Int)) (i:Nat) (c:aH):=
 (es,c0.af.ce,((abn c0.af.ce):Int),(i:Int),c.ii.1,c.ii.2,c.io.am,c.af.aU,c.af.ce,c.ae.aj.aC,c.ae.aj.be,c.ae.aj.bi,c.ae.bv,c.ae.aB,c.jp,f,(0:Int),(0:Int),(0:Int))
def eP (es:List (Int×Int)) (i:Nat) (c:aH):=
 (es,((abn es):Int),(i:Int),c.ii.1,c.ii.2,c.io.am,c.af.aU,c.af.ce,c.ae.aj.aC,c.ae.aj.be,c.ae.aj.bi,c.ae.bv,c.ae.aB,c.jp,(0:Int),(0:Int),(0:Int))
def iZ (c:aH):Int:=c.af.aU- ((abn c.af.ce):Int)
structure BI (c:aH) (f:List Pt) (es:List (Int×Int)) (r:aH):Prop where
 has: ∀e∈es,qR r.af.ce e
 sub: ∀x∈r.af.ce,x.2∈es
 ok:aQ r
 eM:r.io.am=f
 ii:r.ii=c.ii
 room:iZ c<=iZ r
def Roomy (c:aH) (k:Nat):Prop:=abn c.af.ce<=k/\c.af.aU<=k/\ ∀j,j<abn c.ae.aj.aC->c.ae.aj.aC[j]!<=k
theorem bk.len {l:List Pt} {t:Int×Int} {H:List Ev}: ∀{cs ds:List vY},bk l t H cs ds->abn ds<=abn cs
 | [],ds,h=>by rw [h];omega
 |x::cs,ds,h=>by
  cases hy:(bV l x.2 t).2 with
  |true=>obtain ⟨d,EB,rfl,_,_,h4⟩:=h.1 hy;exact Nat.succ_le_succ h4.len
  |false=>exact Nat.le_succ_of_le (h.2 hy).len
theorem Roomy.aau {c:aH} (ok:aQ c) {k:Nat} (h:Roomy c k) (hk:k<=199): ¬(KU c.af\/ ¬F8 c.ae.aj):=by
 obtain ⟨h1,h2,h3⟩:=h;have fl:=ok.DK.len;have hd:=ok.hd;have hl:=ok.oj.hl;have wl:=ok.oj.wl;have w2:=ok.KX;rintro (h|h)
 · rcases h with h|h<;>omega
 refine h ⟨by omega,?_⟩
 have:=h3 _ (I2 ok.oj.so (by omega)).1;omega
theorem Roomy.more {c c':aH} {k:Nat} (h:Roomy c k) {x:Int×Int} (hc:c'.af=vd c.af x) (hs:c'.ae.aj=c.ae.aj\/c'.ae.aj=qP c.ae.aj):Roomy c' (k+1):=by
 obtain ⟨h1,h2,h3⟩:=h;refine ⟨?_,?_,fun j hj=>?_⟩
 · rw [hc]
   show (c.af.ce++[(c.af.aU,x)]).length<=_
   grind
 · rw [hc]
   show c.af.aU+1<=_;omega
 rcases hs with e|e
 · grind
 rw [e] at hj ⊢
 change j<(c.ae.aj.aC.set _ _).length at hj;show (c.ae.aj.aC.set _ _)[j]!<=_
 grind
structure ve (f:List Pt) (es:List (Int×Int)):Prop where
 len:(abn es)<=1000000
 cv: ∀x∈es,jq x
 kn: ∀x∈es,j7 f x
theorem aav {c0:aH} (ok0:aQ c0) {f:List Pt} {es:List (Int×Int)} (xX:ve f es):
 ∀(d i:Nat) (c:aH),abn c0.af.ce-i<=d->i<=abn c0.af.ce->aQ c->(∀x∈c0.af.ce.drop i,x∈c.af.ce)->(∀x∈c.af.ce,x∈c0.af.ce.drop i\/x.2∈es)->
  ∃c':aH,aq dF (kP c0 f es i c)=aq dF (kP c0 f es (abn c0.af.ce) c')/\aQ c'/\(∀x∈c'.af.ce,x.2∈es)/\c'.io=c.io/\c'.ii=c.ii/\iZ c<=iZ c':=by
 have bd:=ok0.bd;intro d
 induction d with
 |zero=>
  grind
 |succ d ih=>
  intro i c hd hi ok h1 h2
  by_cases he:i=abn c0.af.ce
  · grind
  have xk:i<(abn c0.af.ce):=by omega
  have e1:abw ((i:Int)<((abn c0.af.ce):Int))=abu:=ay (by omega);have sc:=aM (show i<1000000000 by omega);have cg:=ar c0.af.ce i xk;have dr:=w9 xk;have DT:(aH.mk (c.ii.1,c.ii.2) (Field.mk c.io.am) (bX.mk c.af.aU c.af.ce) (aV.mk (bD.mk c.ae.aj.aC c.ae.aj.be c.ae.aj.bi) c.ae.bv c.ae.aB) c.jp)=c:=rfl
  by_cases D1:(c0.af.ce[i]!).2∈es
  · have s1:dF (kP c0 f es i c)=abo (.next (kP c0 f es (i+1) c)):=by
     unfold dF kP;simp only [e1,v6,cg,ai,jX _ _ xX.len,ay D1,UV,ww,sc]
    rw [aJ s1];refine ih (i+1) c (by omega) (by omega) ok (fun x hx=>h1 x (by rw [dr];exact If _ hx)) (fun x hx=>?_)
    grind
  have hm:=h1 (c0.af.ce[i]!) (by rw [dr];exact ab1)
  obtain ⟨m,hm1,hm2⟩:=aS.1 hm;obtain ⟨c',r1,r3,r4,r5,r6⟩:=aao ok hm1;have rt:=IN ok hm1 r1;rw [hm2] at rt;have s1:dF (kP c0 f es i c)=abo (.next (kP c0 f es (i+1) c')):=by unfold dF kP;simp only [e1,v6,cg,ai,jX _ _ xX.len,az D1,Bool.not_false,sc,DT,rt]
  rw [aJ s1];have cl:c'.af.ce=c.af.ce.eraseIdx m:=by rw [r6];rfl
  have ye:iZ c<=iZ c':=by unfold iZ;rw [r6];show _<=c.af.aU- (((c.af.ce.eraseIdx m).length:Nat):Int);rw [List.length_eraseIdx_of_lt hm1];omega
  have hs:(∀x∈c0.af.ce.drop (i+1),x∈c'.af.ce)/\(∀x∈c'.af.ce,x∈c0.af.ce.drop (i+1)\/x.2∈es):=by
   refine ⟨fun x hx=>?_,fun x hx=>?_⟩
   · rw [cl]
     refine WY (h1 x (by rw [dr];exact If _ hx)) ?_;rw [hm2];exact Gg ok0 hx xk
   rw [cl] at hx
   obtain ⟨a1,a2⟩:=wV ok.xO hm1 hx;rw [hm2] at a2;rcases h2 x a1 with h|h
   · rw [dr] at h
     rcases List.mem_cons.1 h with rfl|h
     · exact absurd rfl a2
     exact .inl h
   exact .inr h
  obtain ⟨d',q1,q3,q4,q5,q6,q7⟩:=ih (i+1) c' (by omega) (by omega) r3 hs.1 hs.2
  grind
theorem Rg {f:List Pt} (_fok:aT f) {es:List (Int×Int)} (xX:ve f es):
 ∀(d i:Nat) (c:aH),abn es-i<=d->i<=abn es->aQ c->c.io.am=f->(∀x∈c.af.ce,x.2∈es)->(∀j,j<i->qR c.af.ce es[j]!)->
  ∃r:aH×Int,aq dX (eP es i c)=abo (.done r)/\(r.2=0/\BI c f es r.1\/r=(cS,18))/\(∀k,Roomy c k->k+(abn es-i)<=199->r.2=0):=by
 have el:=xX.len;have fin: ∀c:aH,aQ c->c.io.am=f->(∀x∈c.af.ce,x.2∈es)->(∀j,j<abn es->qR c.af.ce es[j]!)-> ∃r:aH×Int,aq dX (eP es (abn es) c)=abo (.done r)/\(r.2=0/\BI c f es r.1\/r=(cS,18))/\r.2=0:=by
  intro c ok hf hs hh;have e1:abw (((abn es):Int)<((abn es):Int))=abv:=az (by omega);refine ⟨(c,0),au ?_,.inl ⟨rfl,fun e he=>by obtain ⟨j,hj,q⟩:=aS.1 he;grind,hs,ok,hf,rfl,Int.le_refl _⟩,rfl⟩
  unfold dX eP
  simp
 intro d
 induction d with
 |zero=>
  grind
 |succ d ih=>
  intro i c hd hi ok hf hs hh
  by_cases he:i=abn es
  · grind
  have bd:=ok.bd;have xk:i<(abn es):=by omega
  have e1:abw ((i:Int)<((abn es):Int))=abu:=ay (by omega);have sc:=aM (show i<1000000000 by omega);have cg:=ar es i xk;have DT:(aH.mk (c.ii.1,c.ii.2) (Field.mk c.io.am) (bX.mk c.af.aU c.af.ce) (aV.mk (bD.mk c.ae.aj.aC c.ae.aj.be c.ae.aj.bi) c.ae.bv c.ae.aB) c.jp)=c:=rfl;have hc:=KS c.af.ce es[i]! (by omega)
  by_cases D1:qR c.af.ce es[i]!
  · have s1:dX (eP es i c)=abo (.next (eP es (i+1) c)):=by
     unfold dX eP;simp only [e1,v6,cg,ai,DI,hc,ay D1,sc]
    grind [aJ]
  have hb:j7 c.io.am es[i]!:=by rw [hf];exact xX.kn _ (aK xk)
  rcases ac' ok (xX.cv _ (aK xk)) hb D1 with ⟨r1,full⟩|⟨c',r1,r3,r4,r5,r6,r7⟩
  · refine ⟨(cS,18),au ?_,.inr rfl,fun k hk hl=>absurd full (hk.aau ok (by omega))⟩
    unfold dX eP
    simp_all [v6,ai,DI,az,ww]
  have s1:dX (eP es i c)=abo (.next (eP es (i+1) c')):=by
   unfold dX eP;simp only [e1,v6,cg,ai,DI,hc,az D1,ww,DT,r1,show ((0:Int) !=0)=abv from rfl,sc]
  rw [aJ s1];obtain ⟨r,q1,q3,q6⟩:=ih (i+1) c' (by omega) (by omega) r3 (by rw [r4,hf]) (fun x hx=>by
   rw [r6] at hx;rcases aa9.1 (hx) with h|h
   · exact hs x h
   · rw [List.mem_singleton.1 h];exact aK xk) (fun j hj=>by
   rw [r6];show qR (c.af.ce++[(c.af.aU,es[i]!)]) _
   by_cases q:j=i
   · rw [q];exact ⟨abn c.af.ce,by rw [EQ,abe];omega,by rw [xK (Nat.le_refl _),Nat.sub_self];rfl⟩
   obtain ⟨w,w1,w2⟩:=hh j (by omega)
   exact ⟨w,by rw [EQ];omega,by rw [iO w1];exact w2⟩)
  refine ⟨r,q1,q3.imp (fun ⟨q4,q5⟩=>⟨q4,q5.has,q5.sub,q5.ok,q5.eM,q5.ii.trans r5,abb ?_ q5.room⟩) id,fun k hk hl=>q6 (k+1) (hk.more r6 r7) (by omega)⟩;unfold iZ;rw [r6];show _<=(c.af.aU+1) - (((c.af.ce++[(c.af.aU,es[i]!)]).length:Nat):Int)
  grind
theorem OL {c:aH} (ok:aQ c) {f:List Pt} (bc:aT f) {es:List _} (xX:ve f es):
 ∃r:aH×Int,oY c ⟨f⟩ es=abo r/\(r.2=0/\BI c f es r.1\/r=(cS,18)):=by
 obtain ⟨c',g1,g3,g4,g5,g6,g7⟩:=aav ok xX (abn c.af.ce) 0 c (by omega) (by omega) ok (fun x hx=>by assumption) (fun x hx=> .inl (by grind));have bd:=g3.bd;have ahb:oY c ⟨f⟩ es=aq dF (kP c f es 0 c):=rfl;rw [ahb,g1];have eq1:=Bj c'.io.am f (by omega);have DT:(aH.mk _ _ _ _ c'.jp)=c':=rfl
 by_cases hf:c'.io.am=f
 · obtain ⟨r,i1,i3,_⟩:=Rg bc xX (abn es) 0 c' (by omega) (by omega) g3 hf g4 (fun j hj=>absurd hj (abj j))
   refine ⟨r,au ?_,i3.imp (fun ⟨q4,q5⟩=>⟨q4,q5.has,q5.sub,q5.ok,q5.eM,q5.ii.trans g6,abb g7 q5.room⟩) id⟩
   unfold dF kP
   simp [eq1,ay hf,];exact i1
 have kn: ∀i,i<abn c'.af.ce->j7 f _:=fun i hi=>xX.kn _ (g4 _ (aK hi))
 rcases alO g3 bc kn with a1|⟨c2,a1,a3,a4,a5,a6⟩
 · refine ⟨(cS,18),au ?_,.inr rfl⟩
   unfold dF kP
   simp_all
 obtain ⟨r,i1,i3,_⟩:=Rg bc xX (abn es) 0 c2 (by omega) (by omega) a3 a4 (by grind) (fun j hj=>absurd hj (abj j))
 refine ⟨r,au ?_,i3.imp (fun ⟨q4,q5⟩=>⟨q4,q5.has,q5.sub,q5.ok,q5.eM,(q5.ii.trans a5).trans g6,abb (abb g7 (by unfold iZ;grind)) q5.room⟩) id⟩
 unfold dF kP
 simp [eq1,az hf,a1,];exact i1
theorem KZ {α:Type} [Inhabited α] {l:List α}:l.Nodup↔ ∀k,k<abn l->l[k]!∉l.take k:=by
 rw [bI];constructor
 · intro h k hk hm
   obtain ⟨i,h1,h2,h3⟩:=cE.1 hm
   grind
 intro h i j pX hj he
 exact h j hj (cE.2 ⟨i,pX,by omega,he⟩)
theorem CY {α:Type} [Inhabited α] {l:List α} {P:α->Prop}:(∀x∈l,P x)↔ ∀i,i<abn l->P l[i]!:=by
 constructor
 · grind
 intro h x hx
 obtain ⟨i,hi,rfl⟩:=aS.1 hx;exact h i hi
theorem kQ {σ ρ:Type} {body:σ->Option _} (st:Nat->σ) (n:Nat) (P:Nat->Prop) {r e:ρ} (h: ∀i,i<n->(¬P i->body (st i)=abo (.done r))/\(P i->body (st i)=abo (.next (st (i+1)))))
 (Z6:body (st n)=abo (.done e)):aq body (st 0)=abo (if∀i,i<n->P i then e else r):=by
 have key:=dZ st n (fun i=> ¬P i) (fun i hi=>⟨(h i hi).1,fun hn=>(h i hi).2 (abg.1 hn)⟩) Z6
 grind
theorem El {f:List Pt} (bc:aT f) (id:Int): ∃p e,dh ⟨f⟩ id=abo (p,e)/\(e=0↔dO f id):=by
 have h1:=bc.1;have hc:cY ⟨f⟩=abo 0:=by rw [fq];exact congrArg abo (gF.2 bc)
 have bs:=s8 f id (by omega) (fun i j=>eO bc.2.2);unfold dh jT kH;rw [DH];simp only [hc,]
 by_cases h:dO f id
 · obtain ⟨k,hk,he⟩:=h
   rw [bs.1 k hk he];refine ⟨f[k]!,0,?_,fun _=>⟨k,hk,he⟩,fun _=>rfl⟩;simp_all [ar]
 obtain ⟨m,_,_,_,e⟩:=bs.2 (fun k hk he=>h ⟨k,hk,he⟩)
 rw [e];exact ⟨(0,0,0),6,rfl,fun h=>(by cases h),fun k=>absurd k h⟩
structure BJ (c:aH):Prop where
 f:(abn c.io.am)<=1000000
 l:(abn c.af.ce)<=1000000
 d:(abn c.jp)<=1000000
 h:(abn c.ae.bv)<=1000000
 w:(abn c.ae.aB)<=1000000
 s1:(abn c.ae.aj.aC)<=1000000
 s2:(abn c.ae.aj.be)<=1000000
 s3:(abn c.ae.aj.bi)<=1000000
theorem aQ.short {c:aH} (ok:aQ c):BJ c:=by have bd:=ok.bd;have ab:=ok.oj.bd;have sl:=ok.oj.so.fl;have sn:=ok.oj.so.n2;have su:=ok.oj.so.ul;exact ⟨by omega,by omega,by omega,by omega,by omega,by omega,by omega,by omega⟩
theorem vf:BJ cS:=⟨by decide,by decide,by decide,by decide,by decide,by decide,by decide,by decide⟩
theorem Hw (l:List Int) (hl:(abn l)<=1000000):iQ l l=abo abu:=by
 unfold iQ;rw [aY rfl];refine (bg (fun i=>(l,l,(i:Int))) (abn l) fun i hi=>?_).trans (au ?_)
 · have e1:abw ((i:Int)<((abn l):Int))=abu:=ay (by omega)
   unfold sw;simp (disch:=omega) only [aF,e1,v6,ar l i hi,ai,aM,aY rfl,ww]
 unfold sw
 simp
theorem Tv (l:List Bool) (hl:(abn l)<=1000000):lf l l=abo abu:=by
 unfold lf;rw [aY rfl];refine (bg (fun i=>(l,l,(i:Int))) (abn l) fun i hi=>?_).trans (au ?_)
 · have e1:abw ((i:Int)<((abn l):Int))=abu:=ay (by omega)
   unfold qH;simp (disch:=omega) only [aF,e1,v6,ar l i hi,ai,aM,beq_self_eq_true,UV,ww]
 unfold qH
 simp
theorem Tw (c:bX) (hl:(abn c.ce)<=1000000):qG c c=abo abu:=by
 unfold qG;rw [aY rfl,aY rfl];refine (bg (fun i=>((i:Int),c.aU,c.ce,c.aU,c.ce)) (abn c.ce) fun i hi=>?_).trans (au ?_)
 · have e1:abw ((i:Int)<((abn c.ce):Int))=abu:=ay (by omega)
   unfold za;simp (disch:=omega) only [aF,e1,v6,ar c.ce i hi,ai,aM,beq_self_eq_true,abf,UV,ww]
 unfold za
 simp
theorem Rh (a:aV) (h1:(abn a.bv)<=1000000) (h2:(abn a.aB)<=1000000) (h3:(abn a.aj.aC)<=1000000) (h4:(abn a.aj.be)<=1000000) (h5:(abn a.aj.bi)<=1000000):qI a a=abo abu:=by
 unfold qI ua;simp only [Hw _ h3,Tv _ h4,Hw _ h5,Hw _ h2,ai,v6,UV,ww];rw [aY rfl];refine (bg (body:=uM) (fun i=>((i:Int),a.aj.aC,a.aj.be,a.aj.bi,a.bv,a.aB,a.aj.aC,a.aj.be,a.aj.bi,a.bv,a.aB)) (abn a.bv) fun i hi=>?_).trans (au ?_)
 · have e1:abw ((i:Int)<((abn a.bv):Int))=abu:=ay (by omega)
   unfold uM;simp only [aF,e1,v6,ar a.bv i hi,ai,aM (show i<1000000000 by omega),beq_self_eq_true,abf,UV,ww]
 unfold uM
 have:abw (((abn a.bv):Int)<((abn a.bv):Int))=abv:=az (by omega);simp only [aF,this,ww]
theorem Bk {c:aH} (sh:BJ c):lN c c=abo abu:=by
 have hd:=sh.d;unfold lN;simp only [beq_self_eq_true,Rf c.io.am c.io.am sh.f,Tw _ sh.l,Rh _ sh.h sh.w sh.s1 sh.s2 sh.s3,];rw [aY rfl];refine (bg (fun i=>((i:Int),c.ii.1,c.ii.2,c.io.am,c.af.aU,c.af.ce,c.ae.aj.aC,c.ae.aj.be,c.ae.aj.bi,c.ae.bv,c.ae.aB,c.jp,c.ii.1,c.ii.2,c.io.am,c.af.aU,c.af.ce,c.ae.aj.aC,c.ae.aj.be,c.ae.aj.bi,c.ae.bv,c.ae.aB,c.jp)) (abn c.jp) fun i hi=>?_).trans (au ?_)
 · have e1:abw ((i:Int)<((abn c.jp):Int))=abu:=ay (by omega)
   unfold zb;simp (disch:=omega) only [aF,e1,v6,ar c.jp i hi,ai,aM,beq_self_eq_true,abf,UV,ww]
 unfold zb
 simp
structure BW (c:aH):Prop where
 ii:jb c.ii
 OD: ∀w,w<abn c.ae.bv->jb ((c.ae.bv[w]!).1,(c.ae.bv[w]!).2.1)
theorem Ri (f:Field):vv f=abo abu\/(vv f=abo abv/\abn f.am<=70):=by
 unfold vv
 grind [aF,ay,az]
theorem yM (c:aH):nj c=abo abu\/(nj c=abo abv/\BJ c):=by
 unfold nj CD CC
 simp only [aF]
 by_cases h1:40<abn c.af.ce
 · rw [ay (show (40:Int)<((abn c.af.ce):Int) by omega)];exact .inl rfl
 rw [az (show¬(40:Int)<((abn c.af.ce):Int) by omega)]
 by_cases h2:40<abn c.jp
 · rw [ay (show (40:Int)<((abn c.jp):Int) by omega)];exact .inl rfl
 rw [az (show¬(40:Int)<((abn c.jp):Int) by omega)];rcases Ri c.io with e|⟨e,hf⟩
 · rw [e];exact .inl rfl
 rw [e];simp only [ww,ai]
 by_cases a1:210<abn c.ae.aj.aC
 · rw [ay (show (210:Int)<((abn c.ae.aj.aC):Int) by omega)];exact .inl rfl
 rw [az (show¬(210:Int)<((abn c.ae.aj.aC):Int) by omega)]
 by_cases a2:210<abn c.ae.aj.be
 · rw [ay (show (210:Int)<((abn c.ae.aj.be):Int) by omega)];exact .inl rfl
 rw [az (show¬(210:Int)<((abn c.ae.aj.be):Int) by omega)]
 by_cases a3:210<abn c.ae.aj.bi
 · rw [ay (show (210:Int)<((abn c.ae.aj.bi):Int) by omega)];exact .inl rfl
 rw [az (show¬(210:Int)<((abn c.ae.aj.bi):Int) by omega)]
 by_cases a4:210<abn c.ae.bv
 · rw [ay (show (210:Int)<((abn c.ae.bv):Int) by omega)];exact .inl rfl
 rw [az (show¬(210:Int)<((abn c.ae.bv):Int) by omega)]
 by_cases a5:210<abn c.ae.aB
 · rw [ay (show (210:Int)<((abn c.ae.aB):Int) by omega)];exact .inl rfl
 rw [az (show¬(210:Int)<((abn c.ae.aB):Int) by omega)];exact .inr ⟨rfl,⟨by omega,by omega,by omega,by omega,by omega,by omega,by omega,by omega⟩⟩
theorem UZ {a b:Int×Int} (ha:bu a) (hb:bu b) (h:a.1*b.2=b.1*a.2):a=b:=by
 obtain ⟨a1,_,a3⟩:=ha;obtain ⟨b1,_,b3⟩:=hb;have hn:a.1.natAbs*b.2.natAbs=b.1.natAbs*a.2.natAbs:=by rw [<- abl,<- abl,h]
 have d1:b.2.natAbs ∣ a.2.natAbs:=by
  have:b.2.natAbs ∣ b.1.natAbs*a.2.natAbs:=by rw [<- hn];exact abh _ _
  exact (Nat.Coprime.dvd_of_dvd_mul_left b3 this)
 grind [abh,Nat.Coprime.dvd_of_dvd_mul_left,Nat.dvd_antisymm,Int.eq_of_mul_eq_mul_right,Prod.ext]
theorem DL (p q:Pt) (t:Int×Int):Eh p q t=(p.2.1-q.2.1)*t.2+(p.2.2-q.2.2)*t.1:=rfl
theorem Il {l h:Pt} {t t':Int×Int} (d:1<=t.2) (d':1<=t'.2) (le:t.1*t'.2<=t'.1*t.2) (hB: ¬h.2.2<l.2.2) (hn: ¬leads l h t): ¬leads l h t':=by
 unfold leads at*;rw [DL] at*;generalize l.2.1-h.2.1=A at*;have hs:l.2.2-h.2.2<=0:=by omega
 intro hl;have key:(A*t'.2+(l.2.2-h.2.2)*t'.1)*t.2<=(A*t.2+(l.2.2-h.2.2)*t.1)*t'.2:=by
  have h1:=Int.mul_le_mul_of_nonpos_left hs le
  grind
 rcases hl with hl|⟨hl,h2|⟨h2,h3⟩⟩
 · refine hn (.inl ?_)
   have:0<(A*t'.2+(l.2.2-h.2.2)*t'.1)*t.2:=Int.mul_pos hl (by omega);have k:0<(A*t.2+(l.2.2-h.2.2)*t.1)*t'.2:=by omega
   exact Int.pos_of_mul_pos_left k (by omega)
 · omega
 have z:l.2.2-h.2.2=0:=by omega
 rw [z] at hl hn;have:A=0:=by
  have:A*t'.2=0:=by omega
  rcases Int.mul_eq_zero.1 this with h|h
  · exact h
  omega
 grind
theorem E2 {h l:Pt} {t t':Int×Int} (hh:eZ h) (hl:eZ l) (r:bu t) (r':bu t') (le:t.1*t'.2<=t'.1*t.2) (up:(jo h l t).2=abu->t'.1*(jo h l t).1.2<=(jo h l t).1.1*t'.2):
 jo h l t'=jo h l t:=by
 unfold jo at*
 by_cases h1:leads l h t
 · rw [AC h1] at up ⊢
   have e:=UZ r r' (by have:=up rfl;dsimp only at this;omega)
   grind
 rw [Do h1] at up ⊢
 by_cases h2:h.2.2<l.2.2
 · rw [AC h2] at up ⊢
   obtain ⟨_,m1,m2,m3⟩:=EY hh hl (by omega);have up:=up rfl;dsimp only at up
   by_cases h3:leads l h t'
   · rw [AC h3]
     have:t'=met h l:=by
      refine UZ r' m1 ?_;have g:0<=Eh l h t':=by rcases h3 with k|k<;>omega
      rw [DL] at g;generalize met h l=m at*;have d:=m1.1;have hB:0<l.2.2-h.2.2:=by omega
      generalize l.2.2-h.2.2=B at*;generalize hA:h.2.1-l.2.1=A at*;have g2:A*t'.2<=B*t'.1:=by
       have:(l.2.1-h.2.1)*t'.2= -(A*t'.2):=by rw [<- Int.neg_mul];congr 1;omega
       omega
      have g3:m.1*t'.2*B<=t'.1*m.2*B:=by
       have e1:m.1*t'.2*B=A*t'.2*m.2:=by rw [IR,m3,IR]
       have e2:t'.1*m.2*B=B*t'.1*m.2:=by rw [IR,abm t'.1 B]
       rw [e1,e2];exact aaF g2 (by omega)
      have g4:=ab3 g3 hB;omega
     rw [this]
   grind
 rw [Do (Il r.1 r'.1 le h2 h1)]
theorem Ab {a:aV} (ok:fP a): ∀k,k<abn a.bv-> ¬less a.bv[k]! a.bv[0]!:=by
 have d:=fun w hw=>(ok.ev w hw).1.1
 intro k
 induction k using Nat.strongRecOn with
 |ind k ih=>
  intro hk
  by_cases h0:k=0
  · grind [qQ]
  exact z6 (d 0 (by omega)) (d ((k-1) / 2) (by omega)) (d k hk) (ih ((k-1) / 2) (by omega) (by omega)) (ok.ord k (by omega) hk)
theorem aaw {h l:Pt} {t:Int×Int} (hh:eZ h) (hl:eZ l) (r:bu t) (is:(jo h l t).2=abu):t.1*(jo h l t).1.2<=(jo h l t).1.1*t.2:=by
 unfold jo at*
 by_cases h1:leads l h t
 · grind
 rw [Do h1] at is ⊢
 by_cases h2:h.2.2<l.2.2
 · rw [AC h2]
   obtain ⟨_,m1,m2,m3⟩:=EY hh hl (by omega);have g:=Int.not_lt.1 fun k=>h1 (.inl k)
   rw [DL] at g;generalize met h l=m at*;have d:=m1.1;have hB:0<l.2.2-h.2.2:=by omega
   generalize l.2.2-h.2.2=B at*;generalize hA:h.2.1-l.2.1=A at*;have g2:B*t.1<=A*t.2:=by
    have:(l.2.1-h.2.1)*t.2= -(A*t.2):=by rw [<- Int.neg_mul];congr 1;omega
    omega
   have e1:t.1*m.2*B=B*t.1*m.2:=by rw [IR,abm t.1 B]
   have e2:m.1*t.2*B=A*t.2*m.2:=by rw [IR,m3,IR]
   have g3:t.1*m.2*B<=m.1*t.2*B:=by rw [e1,e2];exact aaF g2 (by omega)
   exact ab3 g3 hB
 grind
theorem bk.time {l:List Pt} {t t':Int×Int} {H:List Ev}: ∀{cs ds:List vY},(∀x∈cs,bV l x.2 t'=bV l x.2 t)->bk l t H cs ds->bk l t' H cs ds
 | [],_,_,h=>h
 |x::cs,ds,hw,h=>by
  have e:=hw x ab1;have ih: ∀{ds},bk l t H cs ds->bk l t' H cs ds:=fun {ds}=>bk.time fun y hy=>hw y (If _ hy)
  refine ⟨fun hy=>?_,fun hy=>?_⟩
  · rw [e] at hy
    obtain ⟨d,EB,h1,h2,h3,h4⟩:=h.1 hy
    grind
  rw [e] at hy
  exact ih (h.2 hy)
theorem K0 {c:aH} (ok:aQ c) (fy:0<abn c.ae.bv):
 ∃(i:Nat) (c':aH),i<abn c.af.ce/\(c.af.ce[i]!).1=Ev.num c.ae.bv[0]!/\lP c (Ev.num c.ae.bv[0]!)=abo (c',(c.af.ce[i]!).2,0)/\
  aQ ⟨Ev.at c.ae.bv[0]!,c'.io,c'.af,c'.ae,c'.jp⟩/\c'.io=c.io/\c'.af=s9 c.af i/\c.ii.1*(Ev.at c.ae.bv[0]!).2<=(Ev.at c.ae.bv[0]!).1*c.ii.2:=by
 have hm:=aK fy;obtain ⟨d,hd,hn⟩:=ok.DS _ hm;obtain ⟨x,hx,h1,h2,h3⟩:=ok.DK.jp d hd;obtain ⟨w,hw,he⟩:=aS.1 h3;have hw0:w=0:=NE fun hx=>by
  refine ok.oj.nd 0 w (by omega) hw ?_
  grind
 subst hw0;obtain ⟨i,hi,rfl⟩:=aS.1 hx;have num:(c.af.ce[i]!).1=Ev.num c.ae.bv[0]!:=by rw [<- hn,h1]
 have tm:Ev.at c.ae.bv[0]! =(bV c.io.am (c.af.ce[i]!).2 c.ii).1:=by rw [he]
 obtain ⟨c',r1,r3,r4,r5,r6⟩:=aao ok hi;have hb:=ok.known i hi;have pt:=fun (x:Int×Int) (hb:j7 c.io.am x)=>And.intro (bT ok.eM hb.2).1 (bT ok.eM hb.1).1
 have rt:=F7 (pt _ hb).1 (pt _ hb).2 ok.dw ok.hZ h2;have ge:=aaw (pt _ hb).1 (pt _ hb).2 ok.hZ h2;rw [num] at r1;refine ⟨i,c',hi,num,r1,?_,r4,r6,by rw [tm];exact ge⟩;refine ⟨by rw [tm];exact rt.1,by rw [tm];exact rt.2,r3.eM,r3.uw,r3.oj,r3.KX,r3.hd,r3.known,?_⟩;refine bk.time (fun y hy=>?_) r3.DK;have hy':y∈c.af.ce:=by rw [r6] at hy;exact (wV ok.xO hi hy).1
 obtain ⟨j,hj,rfl⟩:=aS.1 hy';have hbj:=ok.known j hj;rw [r4,r5];refine E2 (pt _ hbj).1 (pt _ hbj).2 ok.hZ (by rw [tm];exact rt.1) (by rw [tm];exact ge) (fun is=>?_);obtain ⟨d',hd',k1,k2⟩:=ok.DK.has _ hy' is;obtain ⟨w,hw,he⟩:=aS.1 k2;have:=Ab ok.oj w hw;rw [he] at this;exact Int.not_lt.1 fun k=>this (.inl (oy.2 k))
theorem nY {p q:Pt} {t:Int×Int} (hp:eZ p) (hq:eZ q) (ht:jb t) (hr:bu t):cP p q t=abo (abw (leads p q t),if p.1=q.1 then 2 else 0)\/(p.1=q.1/\cP p q t=abo (abv,2)):=by
 unfold cP;rw [zj ht,AC ⟨hp,hq,hr⟩]
 by_cases h:p.1=q.1
 · right;simp [h]
 left
 simp [yJ hp hq ht]
 grind [KF]
end Go.Proofs.YthljiplggdanpaaGreat
namespace Go.Proofs.YthljiplggdanpaaGreat
open Go.Vm
theorem ft {α:Type} [BEq α] [LawfulBEq α]: ∀{a b:List α},a.Nodup->(∀x∈a,x∈b)->abn b<=abn a->a.Perm b
 | [],b,_,_,hl=>by
  grind
 |x::a,b,hd,h,hl=>by
  rw [abd] at hd;have hx:=h x ab1;have ih:=ft (b:=b.erase x) hd.2 (fun y hy=>by
   rw [List.mem_erase_of_ne (fun e=>hd.1 (by rw [<- e];exact hy))];exact h y (If _ hy)) (by
   rw [List.length_erase_of_mem hx];rw [aaE] at hl;omega)
  grind
theorem Bl {α β:Type} {f:α->β}: ∀{l:List α},l.Nodup->(∀x∈l,∀y∈l,f x=f y->x=y)->(l.map f).Nodup
 | [],_,_=>List.nodup_nil
 |x::l,h,hi=>by
  rw [abd] at h;rw [List.map_cons,abd];refine ⟨fun hm=>?_,Bl h.2 fun y hy z hz=>hi y (If _ hy) z (If _ hz)⟩
  grind
end Go.Proofs.YthljiplggdanpaaGreat
namespace Go.Proofs.YthljiplggdanpaaGreat
open Go.Vm Classical
def xP (l:List Int) (k:Nat):List (Int×Int):=(List.range k).map fun i=>(l[i+1]!,l[i / 2]!)
abbrev eH (l:List Int):List (Int×Int):=xP l (abn l-1)
theorem lW (l:List Int) (k:Nat):(xP l k).length=k:=by unfold xP;simp
theorem Io (l:List Int) (k:Nat):xP l (k+1)=xP l k++[(l[k+1]!,l[k / 2]!)]:=by unfold xP;rw [List.range_succ,List.map_append];rfl
theorem yN (l:List Int) {k i:Nat} (h:i<k):(xP l k)[i]! =(l[i+1]!,l[i / 2]!):=by rw [getElem!_pos _ i (by rw [lW];exact h)];unfold xP;simp
theorem K1 (l:List Int) (hl:(abn l)<=1000):rB l=abo (eH l):=by
 unfold rB;have key:=bg (body:=sM) (fun i=>(l,((i+1:Nat):Int),xP l i)) (abn l-1) (fun i hi=>by
  have e:aa .i64 (Int.tdiv (aa .i64 (((i+1:Nat):Int) -1)) 2)=((i / 2:Nat):Int):=by rw [show aa .i64 (((i+1:Nat):Int) -1)=(i:Int) from by rw [eD ⟨by omega,by omega⟩];omega,Int.tdiv_eq_ediv_of_nonneg (by omega),eD ⟨by omega,by omega⟩];omega
  unfold sM;simp (disch:=omega) only [aF,ay,v6,ar,e,ai];rw [bA (by rw [lW,abe];omega),ai,aM (by omega),<- Io])
 rw [show (l,(1:Int),([]:List _))=(l,((0+1:Nat):Int),xP l 0) from rfl,key];refine au ?_;unfold sM
 grind
theorem alP (l:List Int) (hl:(abn l)<=1000):F2 l=abo (eH l):=by rw [<- K1 l hl];rfl
theorem Hx {l:List Int} {e:Int×Int} (h:e∈eH l):e.1∈l/\e.2∈l:=by
 obtain ⟨i,hi,rfl⟩:=aS.1 h
 grind [lW,yN,aK]
theorem Rj {l:List Int} (hd:l.Nodup) {e:Int×Int} (h:e∈eH l):e.1≠e.2:=by obtain ⟨i,hi,rfl⟩:=aS.1 h;rw [lW] at hi;rw [yN l hi];exact fun h=>bI.1 hd _ _ (by omega) (by omega) h.symm
theorem yO {l:List Int} (hd:l.Nodup):(eH l).Nodup:=by
 refine Bl List.nodup_range fun i hi j hj h=>?_
 have h2:=bI.1 hd
 grind
theorem Gh (l:List Int) (x:Int) (hl:(abn l)<=1000000):
 (∀k,k<abn l->l[k]! =x->(∀j,j<k->l[j]!≠x)->da l x=abo (k:Int))/\((∀k,k<abn l->l[k]!≠x)->da l x=abo (-1)):=by
 have k1:=pf (body:=mq) (fun i=>(l,x,((abn l):Int),(i:Int))) (abn l) (fun i=>l[i]! =x) (fun i=>(i:Int)) (e:= -1) (fun i hi=>by
  unfold mq;simp (disch:=omega) only [ay,ar l i hi,ai,aM];refine ⟨fun h=>?_,fun h=>?_⟩
  · rw [lL h.symm];rfl
  · rw [jm (fun k=>h k.symm)];rfl) (by
  unfold mq;simp (disch:=omega) only [az,ww])
 assumption
theorem OM (l:List Int) (x:Int) (hl:(abn l)<=1000000):mu l x=abo (abw (x∈l)):=by
 unfold mu
 by_cases hx:x∈l
 · obtain ⟨k,k1,k2,k3⟩:=least (aS.1 hx)
   rw [(Gh l x hl).1 k k1 k2 k3,ai,ay hx,ay (by omega)]
 grind [Gh,ai,az]
theorem bZ {f:List Pt} (bc:aT f) {id:Int} (h:dO f id):dh ⟨f⟩ id=abo (bm f id,0):=by
 have h1:=bc.1;have hc:cY ⟨f⟩=abo 0:=by rw [fq];exact congrArg abo (gF.2 bc)
 have bs:=s8 f id (by omega) (fun i j=>eO bc.2.2);unfold dh jT kH;rw [DH];simp [hc,];obtain ⟨k,hk,he⟩:=h;rw [bs.1 k hk he];simp [ai,UV,ww,show ((0:Int) !=0)=abv from rfl,ar f k hk,mA bc.2.2 hk he]
theorem aax {f:List Pt} (bc:aT f) {t:Int×Int} (r:bu t) (eR:jb t) {a b:Int} (ha:dO f a) (hb:dO f b) (fy:a≠b):yC ⟨f⟩ t a b=abo (abw (leads (bm f a) (bm f b) t)):=by
 unfold yC
 grind [bZ,ai,bT,nY]
theorem adf {f:List Pt} (bc:aT f) {t:Int×Int} (eR:jb t) {x:Int×Int} (hb:j7 f x):A3 x ⟨f⟩ t=abo (abw (leads (bm f x.2) (bm f x.1) t)):=by
 obtain ⟨h1,h2⟩:=hb;obtain ⟨j,j1,j2,j3⟩:=zn bc h1;obtain ⟨k,k1,k2,k3⟩:=zn bc h2;unfold A3
 grind [ai,ar,CR,bT]
def ed (f:List Pt):List Int:=f.map fun p=>p.1
theorem eF {f:List Pt} (h:fo f):(ed f).Nodup:=by
 refine Bl ?_ ?_
 · exact bI.2 fun i j pX hj e=>by have:=eO h pX hj;grind
 intro x hx y hy e
 obtain ⟨i,hi,rfl⟩:=aS.1 hx;obtain ⟨j,hj,rfl⟩:=aS.1 hy;rw [nL h hi hj e]
theorem dz {f:List Pt} {id:Int}:id∈ed f↔dO f id:=by
 unfold ed dO;rw [aba];constructor
 · rintro ⟨p,hp,rfl⟩
   obtain ⟨i,hi,rfl⟩:=aS.1 hp;exact ⟨i,hi,rfl⟩
 grind
structure jP (k:bE):Prop where
 fw:aQ k.kw
 perm:(ed k.kw.io.am).Perm k.bv
 cert:(k.kw.af.ce.map fun x=>x.2).Perm (eH k.bv)
 lead: ∀e∈eH k.bv,leads (bm k.kw.io.am e.2) (bm k.kw.io.am e.1) k.kw.ii
theorem ja {c:bX} (ok:hY c):(c.ce.map fun x=>x.2).Nodup:=by
 refine Bl ?_ ?_
 · exact bI.2 fun i j pX hj e=>ok.nd i j pX hj (by rw [e])
 intro x hx y hy e
 obtain ⟨i,hi,rfl⟩:=aS.1 hx;obtain ⟨j,hj,rfl⟩:=aS.1 hy;rcases ab4 i j with k|k|k
 · exact absurd e (ok.nd i j k hj)
 · rw [k]
 exact absurd e.symm (ok.nd j i k hi)
def aeQ (k:bE):Prop:=(∀i,i<abn k.kw.io.am->(k.kw.io.am[i]!).1∈k.bv)/\(eH k.bv).length=abn k.kw.af.ce/\
 ∀i,i<abn k.kw.af.ce->(k.kw.af.ce[i]!).2∈eH k.bv/\leads (bm k.kw.io.am (k.kw.af.ce[i]!).2.2) (bm k.kw.io.am (k.kw.af.ce[i]!).2.1) k.kw.ii
def U1 (k:bE):Prop:=(∀i,i<abn k.bv->dO k.kw.io.am k.bv[i]!/\ ∀j,j<i->k.bv[j]!≠k.bv[i]!)/\abn k.kw.af.ce=(eH k.bv).length/\
 ∀i,i<(eH k.bv).length->qR k.kw.af.ce (eH k.bv)[i]!/\leads (bm k.kw.io.am ((eH k.bv)[i]!).2) (bm k.kw.io.am ((eH k.bv)[i]!).1) k.kw.ii
theorem dy {l:List vY} {x:Int×Int}:qR l x↔x∈l.map fun y=>y.2:=by
 unfold qR;rw [aba];constructor
 · grind
 rintro ⟨y,hy,rfl⟩
 obtain ⟨i,hi,rfl⟩:=aS.1 hy
 grind
theorem alQ {k:bE} (ok:aQ k.kw) (hl:(abn k.bv)=abn k.kw.io.am):aeQ k↔jP k:=by
 have nd:=eF ok.eM.2.2;have il:(ed k.kw.io.am).length=(abn k.kw.io.am):=PP ..;have cl:(k.kw.af.ce.map fun x=>x.2).length=(abn k.kw.af.ce):=PP ..;have cn:=ja ok.uw;constructor
 · rintro ⟨h1,h2,h3⟩
   have pm:=ft nd (fun x hx=>by obtain ⟨i,hi,rfl⟩:=dz.1 hx;exact h1 i hi) (by omega);have pc:=ft cn (fun x hx=>by obtain ⟨i,hi,rfl⟩:=dy.2 hx;exact (h3 i hi).1) (by omega);refine ⟨ok,pm,pc,fun e he=>?_⟩;obtain ⟨i,hi,rfl⟩:=dy.2 (pc.mem_iff.2 he)
   grind
 intro h
 refine ⟨fun i hi=>h.perm.mem_iff.1 (dz.2 ⟨i,hi,rfl⟩),by rw [<- h.cert.length_eq,cl],fun i hi=>?_⟩;have:=h.cert.mem_iff.1 (dy.1 ⟨i,hi,rfl⟩);exact ⟨this,h.lead _ this⟩
theorem alR {k:bE} (ok:aQ k.kw) (hl:(abn k.bv)=abn k.kw.io.am):U1 k↔jP k:=by
 have nd:=eF ok.eM.2.2;have il:(ed k.kw.io.am).length=(abn k.kw.io.am):=PP ..;have cl:(k.kw.af.ce.map fun x=>x.2).length=(abn k.kw.af.ce):=PP ..;constructor
 · rintro ⟨h1,h2,h3⟩
   have hn:=bI.2 fun i j pX hj e=>(h1 j hj).2 i pX e
   have pm:=ft hn (fun x hx=>by obtain ⟨i,hi,rfl⟩:=aS.1 hx;exact dz.2 (h1 i hi).1) (by omega);have pc:(eH k.bv).Perm (k.kw.af.ce.map fun x=>x.2):=ft (yO hn) (fun x hx=>by obtain ⟨i,hi,rfl⟩:=aS.1 hx;exact dy.1 (h3 i hi).1) (by omega);refine ⟨ok,pm.symm,pc.symm,fun e he=>?_⟩;obtain ⟨i,hi,rfl⟩:=aS.1 he
   grind
 intro h
 have hn:=h.perm.nodup_iff.1 nd;refine ⟨fun i hi=>⟨dz.1 (h.perm.mem_iff.2 (aK hi)),fun j hj e=>bI.1 hn j i hj hi e⟩,by rw [<- h.cert.length_eq,cl],fun i hi=>?_⟩;exact ⟨dy.2 (h.cert.mem_iff.2 (aK hi)),h.lead _ (aK hi)⟩
theorem Bm {α:Type} {p q:Prop} [Decidable p] [Decidable q] {a b:α} (h:p↔q):(if p then a else b)=if q then a else b:=by
 grind
theorem ph {k:bE} (fit:mY k.kw) (hl:(abn k.bv)<=1000):jU k=abo (if jP k then 0 else 8):=by
 unfold jU;rw [ia fit,ai]
 by_cases ok:aQ k.kw
 case neg=>rw [Do ok,Do (fun h=>ok h.fw)];rfl
 rw [AC ok,aY rfl,ww]
 by_cases hh:(abn k.bv)=abn k.kw.io.am
 case neg=>rw [db (by grind),v6,Do (fun h=>hh ?_)];rw [<- h.perm.length_eq];exact PP ..
 rw [aY (by grind),ww,<- Bm (alQ ok hh)];have bd:=ok.bd;have MY:=kQ (body:=sO) (fun i=>(eH k.bv,k.kw.af.ce,((abn k.kw.af.ce):Int),(i:Int),k.kw.ii.1,k.kw.ii.2,k.kw.io.am,k.kw.af.aU,k.kw.af.ce,k.kw.ae.aj.aC,k.kw.ae.aj.be,k.kw.ae.aj.bi,k.kw.ae.bv,k.kw.ae.aB,k.kw.jp,k.bv)) (abn k.kw.af.ce)
  (fun i=>(k.kw.af.ce[i]!).2∈eH k.bv/\leads (bm k.kw.io.am (k.kw.af.ce[i]!).2.2) (bm k.kw.io.am (k.kw.af.ce[i]!).2.1) k.kw.ii) (r:= .done 8) (e:= .done 0) (fun i hi=>by
  have hb:=ok.known i hi;have hv:=ok.uw.cv i hi;unfold sO;simp (disch:=omega) only [ar k.kw.af.ce i hi,ai,jX (eH k.bv) _ (by rw [lW];omega),aax ok.eM ok.hZ ok.dw hb.2 hb.1 (fun h=>hv.2.2.2.2 h.symm),aM]
  grind) (by
  unfold sO;simp)
 have outer:=kQ (body:=sP) (fun i=>(k.kw.io.am,((abn k.kw.io.am):Int),(i:Int),k.kw.ii.1,k.kw.ii.2,k.kw.io.am,k.kw.af.aU,k.kw.af.ce,k.kw.ae.aj.aC,k.kw.ae.aj.be,k.kw.ae.aj.bi,k.kw.ae.bv,k.kw.ae.aB,k.kw.jp,k.bv)) (abn k.kw.io.am)
  (fun i=>(k.kw.io.am[i]!).1∈k.bv) (r:=8) (e:=if (eH k.bv).length=abn k.kw.af.ce/\ ∀i,i<abn k.kw.af.ce->(k.kw.af.ce[i]!).2∈eH k.bv/\leads (bm k.kw.io.am (k.kw.af.ce[i]!).2.2) (bm k.kw.io.am (k.kw.af.ce[i]!).2.1) k.kw.ii then 0 else 8) (fun i hi=>by
  unfold sP;simp (disch:=omega) only [ar k.kw.io.am i hi,OM,aM]
  grind) (by
  unfold sP;simp (disch:=omega) only [K1 k.bv hl,]
  grind)
 refine (outer).trans ?_
 by_cases h1: ∀i,i<abn k.kw.io.am->(k.kw.io.am[i]!).1∈k.bv
 · rw [AC h1]
   congr 1
   exact Bm ⟨fun h=>⟨h1,h.1,h.2⟩,fun h=>⟨h.2.1,h.2.2⟩⟩
 rw [Do h1,Do (fun h:aeQ k=>h1 h.1)]
theorem I7 {c:aH} (ok:aQ c) (es:List _) (kn: ∀x∈es,j7 c.io.am x):
 qJ c es=abo (abw (abn c.af.ce=abn es/\ ∀i,i<abn es->qR c.af.ce es[i]!/\leads (bm c.io.am (es[i]!).2) (bm c.io.am (es[i]!).1) c.ii)):=by
 have bd:=ok.bd;unfold qJ;simp only [aF]
 by_cases h0:(abn c.af.ce)=abn es
 case neg=>rw [db (by omega),v6,az (fun h=>h0 h.1)]
 have key:=kQ (body:=uQ) (fun i=>(es,(i:Int),c.ii.1,c.ii.2,c.io.am,c.af.aU,c.af.ce,c.ae.aj.aC,c.ae.aj.be,c.ae.aj.bi,c.ae.bv,c.ae.aB,c.jp)) (abn es)
  (fun i=>qR c.af.ce es[i]!/\leads _ _ c.ii) (e:=abu) (fun i hi=>by
  have alS:bX.mk c.af.aU c.af.ce=c.af:=rfl;unfold uQ;simp (disch:=omega) only [aF,ay,ar es i hi,ai,alS,OH,adf ok.eM ok.dw (kn _ (aK hi)),aM]
  by_cases h1:qR c.af.ce es[i]!
  · rw [ay h1]
    by_cases h2:leads (bm c.io.am (es[i]!).2) (bm c.io.am (es[i]!).1) c.ii
    · rw [ay h2]
      exact ⟨fun h=>absurd ⟨h1,h2⟩ h,fun _=>rfl⟩
    rw [az h2]
    exact ⟨fun _=>rfl,fun h=>absurd h.2 h2⟩
  · rw [az h1]
    exact ⟨fun _=>rfl,fun h=>absurd h.1 h1⟩) (by
  unfold uQ;simp (disch:=omega) only [aF,az,ww])
 grind
theorem adg {σ ρ:Type} {body:σ->Option _} (st:Nat->σ) (n:Nat) (P:Nat->Prop) {r:ρ} (h: ∀i,i<n->(¬P i->body (st i)=abo (.done r))/\(P i->body (st i)=abo (.next (st (i+1)))))
 (hx: ¬ ∀i,i<n->P i):aq body (st 0)=abo r:=by
 obtain ⟨i,hi⟩:=Classical.not_forall.1 hx;obtain ⟨hi,hx⟩:=Classical.not_imp.1 hi;obtain ⟨m,m1,m2,m3⟩:=least (c:=fun i=> ¬P i) ⟨i,hi,hx⟩;rw [bg st m fun j hj=>(h j (by omega)).2 (abg.1 (m3 j hj))]
 grind [au]
def ckS (k:bE) (i:Nat):=((i:Int),k.kw.ii.1,k.kw.ii.2,k.kw.io.am,k.kw.af.aU,k.kw.af.ce,k.kw.ae.aj.aC,k.kw.ae.aj.be,k.kw.ae.aj.bi,k.kw.ae.bv,k.kw.ae.aB,k.kw.jp,k.bv)
theorem CZ {k:bE} (fit:mY k.kw) (hl:(abn k.bv)<=1000):rp k=abo (if jP k then 0 else 8):=by
 unfold rp;rw [tc fit,ai]
 by_cases ok:aQ k.kw
 case neg=>rw [Do ok,Do (fun h=>ok h.fw)];rfl
 rw [AC ok,aY rfl,ww]
 by_cases hh:(abn k.bv)=abn k.kw.io.am
 case neg=>rw [db (by grind),v6,Do (fun h=>hh ?_)];rw [<- h.perm.length_eq];exact PP ..
 rw [aY (by grind),ww,<- Bm (alR ok hh)];have step: ∀i,i<abn k.bv->(¬(dO k.kw.io.am k.bv[i]!/\ ∀j,j<i->k.bv[j]!≠k.bv[i]!)->oS (ckS k i)=abo (.done 8))/\((dO k.kw.io.am k.bv[i]!/\ ∀j,j<i->k.bv[j]!≠k.bv[i]!)->oS (ckS k i)=abo (.next (ckS k (i+1)))):=by
  intro i hi;unfold ckS;unfold oS;simp (disch:=omega) only [aF,ay,ar k.bv i hi,ai]
  by_cases h1:dO k.kw.io.am k.bv[i]!
  case neg=>rw [OI ok.eM h1];exact ⟨fun _=>rfl,fun h=>absurd h.1 h1⟩
  obtain ⟨m,m1,m2,m3⟩:=zn ok.eM h1;rw [m2];have MY:=kQ (body:=sE) (fun j=>((i:Int),(j:Int),k.kw.ii.1,k.kw.ii.2,k.kw.io.am,k.kw.af.aU,k.kw.af.ce,k.kw.ae.aj.aC,k.kw.ae.aj.be,k.kw.ae.aj.bi,k.kw.ae.bv,k.kw.ae.aB,k.kw.jp,k.bv)) i
   (fun j=>k.bv[j]!≠k.bv[i]!) (e:= .next (((i+1:Nat):Int),k.kw.ii.1,k.kw.ii.2,k.kw.io.am,k.kw.af.aU,k.kw.af.ce,k.kw.ae.aj.aC,k.kw.ae.aj.be,k.kw.ae.aj.bi,k.kw.ae.bv,k.kw.ae.aB,k.kw.jp,k.bv)) (fun j hj=>by
   unfold sE;simp (disch:=omega) only [ay,ar,ai,aM]
   by_cases h:k.bv[j]! =k.bv[i]!
   · rw [lL h];exact ⟨fun _=>rfl,fun k=>absurd h k⟩
   · rw [jm h];exact ⟨fun k=>absurd h k,fun _=>rfl⟩) (by
   unfold sE;simp (disch:=omega) only [az,ww,aM])
  grind
 by_cases hP: ∀i,i<abn k.bv->dO k.kw.io.am k.bv[i]!/\ ∀j,j<i->k.bv[j]!≠k.bv[i]!
 · have jus:=I7 ok _ (fun x hx=>by
    obtain ⟨h1,h2⟩:=Hx hx;obtain ⟨i,hi,e1⟩:=aS.1 h1;obtain ⟨j,hj,e2⟩:=aS.1 h2;exact ⟨e1▸(hP i hi).1,e2▸(hP j hj).1⟩)
   have o:=kQ _ (abn k.bv) _ (e:=if U1 k then 0 else 8) step (by
    unfold oS ckS;simp (disch:=omega) only [aF,az,alP k.bv hl,ai,jus]
    by_cases h2:(abn k.kw.af.ce)=(eH k.bv).length/\ ∀i,i<(eH k.bv).length->qR k.kw.af.ce (eH k.bv)[i]!/\leads (bm k.kw.io.am ((eH k.bv)[i]!).2) (bm k.kw.io.am ((eH k.bv)[i]!).1) k.kw.ii
    · rw [ay h2,AC (⟨hP,h2.1,h2.2⟩)];rfl
    rw [az h2,Do (fun h:U1 k=>h2 ⟨h.2.1,h.2.2⟩)];rfl)
   refine (o).trans ?_;rw [AC hP]
 rw [Do (fun h:U1 k=>hP h.1)]
 exact adg _ (abn k.bv) _ step hP
end Go.Proofs.YthljiplggdanpaaGreat
