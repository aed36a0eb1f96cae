/- Plain laws (2). -/
import Derived.Test.YthljiplggdanpaaGreatPQM1
open Classical renaming not_not->EQ
open Bool renaming not_true->If,eq_iff_iff->ab4,not_false->abb,true->abm,false->abn
open Int renaming toNat_natCast->IR
open List renaming length_set->NE,drop_eq_nil_iff->WF,mem_map->aa9,drop_length->ab1,mem_cons->abc,length_append->abd,pairwise_cons->abe,isEmpty_iff->abf,length_map->abg,replicate->abh,length->abk
open Nat renaming le_refl->PP,ble_eq_true_of_le->UV,lt_trichotomy->aaF,eq_of_beq_eq_true->aba,sub_self->abi,beq->abj
open Prod renaming ext->aaE
open Iff renaming rfl->ab3
open Option renaming some->abl
open Decidable renaming decide->abo
namespace Go.Proofs.YthljiplggdanpaaGreat
open Go.Vm Classical
theorem OG (a:aV) (fit:CU a) (so:iq a.aj) (wl:(abk a.aB)=abk a.aj.aC):
 aq nU (a.aB,((abk a.aB):Int),0,a.aj.aC,a.aj.be,a.aj.bi,a.bv,a.aB)=abl (if (∀i,i<abk a.aj.aC->OE a i)/\(∀k,k<abk a.bv->Q1 a.bv k) then 0 else 8):=by
 have hu:=so.ul;have hn:=so.n2;have MY:=OF a.bv a.aj.aC a.aj.bi a.aB a.aj.be fit.hp fit.OD;have key:=dZ (body:=nU) (fun i=>(a.aB,((abk a.aB):Int),(i:Int),a.aj.aC,a.aj.be,a.aj.bi,a.bv,a.aB)) (abk a.aB) (fun i=> ¬OE a i) (e:=if (∀k,k<abk a.bv->Q1 a.bv k) then 0 else 8) (fun i hi=>by
  have e1:abo ((i:Int)<((abk a.aB):Int))=abm:=ay (by omega);unfold nU;simp (disch:=omega) only [aF,e1,ar,ai,aM];unfold OE;generalize a.aB[i]! =w at*;cases hb:a.aj.be[i]! with
  |false=>
   simp only []
   by_cases hw:w= -1
   · rw [aY hw]
     exact ⟨fun h=>absurd ⟨fun h=>(by cases h),fun _=>hw⟩ h,fun _=>rfl⟩
   rw [db hw]
   exact ⟨fun _=>rfl,fun h=>absurd ((EQ.1 h).2 trivial) hw⟩
  |true=>
   simp only []
   by_cases b1:w<0
   · rw [ay b1]
     exact ⟨fun _=>rfl,fun h=>absurd ((EQ.1 h).1 trivial).1 (by omega)⟩
   by_cases b2:((abk a.bv):Int)<=w
   · rw [az b1,ay b2]
     exact ⟨fun _=>rfl,fun h=>absurd ((EQ.1 h).1 trivial).2.1 (by omega)⟩
   rw [az b1,az b2];simp (disch:=omega) only [kN,ai]
   by_cases b3:(a.bv[w.toNat]!).2.2.2.1=i
   · by_cases b4:(a.bv[w.toNat]!).2.2.2.2=a.aj.aC[i]!
     · rw [lL b3,lL b4]
       exact ⟨fun h=>absurd ⟨fun _=>⟨by omega,by omega,b3,b4⟩,fun h=>(by cases h)⟩ h,fun _=>rfl⟩
     rw [lL b3,jm b4]
     exact ⟨fun _=>rfl,fun h=>absurd ((EQ.1 h).1 trivial).2.2.2 b4⟩
   rw [jm b3]
   exact ⟨fun _=>rfl,fun h=>absurd ((EQ.1 h).1 trivial).2.2.1 b3⟩) (by
  unfold nU;simp []
  by_cases hx: ∀k,k<abk a.bv->Q1 a.bv k
  · rw [AC hx];exact MY.1 hx
  rw [Do hx];exact MY.2 hx)
 grind
theorem lh (a:aV) (fit:CU a):lD a=abl (if fP a then 0 else 8):=by
 have hh:=fit.hp;unfold lD;rw [zk _ fit.fr];simp only [aF]
 by_cases so:iq a.aj
 case neg=>rw [Do so,Do (fun h=>so h.so)];rfl
 have hu:=so.ul;have hn:=so.n2;have hf:=so.fl;rw [AC so];simp only [ai,show ((0:Int) !=0)=abn from rfl,ww]
 by_cases wl:(abk a.aB)=abk a.aj.aC
 case neg=>rw [db (by omega),Do (fun h=>wl h.wl)];rfl
 rw [aY (by omega)];have e:aa .i64 (((abk a.aj.be):Int) - ((abk a.aj.bi):Int))=((abk a.aj.aC-(abk a.aj.bi):Nat):Int):=by rw [wi];omega
 rw [e]
 by_cases hl:(abk a.bv)+abk a.aj.bi=abk a.aj.aC
 case neg=>rw [db (by omega),Do (fun h=>hl h.hl)];rfl
 rw [aY (by omega)];simp only [ww];rw [OG a fit so wl]
 by_cases ok:fP a
 · rw [AC ok,AC ok.to]
 rw [Do ok,Do]
 intro h;exact ok (fP.of fit so wl hl h.1 h.2)
theorem aag {x y:Ev} (hx:jb (x.1,x.2.1)) (hy:jb (y.1,y.2.1)):AY x y=abl (abo (less x y)):=by
 unfold AY less;rw [Td hx hy]
 grind
theorem UX {s:bD} (ok:iq s) (h:Int×Int):xA s h=abl (abo (zZ s h)):=by
 have hu:=ok.ul;unfold xA zZ
 by_cases a1:0<=h.1
 · by_cases a2:h.1<abk s.aC
   · simp (disch:=omega) only [kN,]
     grind
   simp [a2]
 simp [a1]
theorem WN (a:aV) (so:iq a.aj):wL a=abl (abo (abk a.aB=abk a.aj.aC/\abk a.bv+abk a.aj.bi=abk a.aj.aC/\ ∀i,i<abk a.aj.aC->OE a i)):=by
 have hu:=so.ul;have hn:=so.n2;have hf:=so.fl;unfold wL;simp only [aF]
 by_cases wl:(abk a.aB)=abk a.aj.aC
 case neg=>rw [db (by omega),az (fun h=>wl h.1)];rfl
 rw [aY (by omega)];have e:aa .i64 (((abk a.aj.aC):Int) - ((abk a.aj.bi):Int))=((abk a.aj.aC-(abk a.aj.bi):Nat):Int):=by rw [wi];omega
 rw [e]
 by_cases hl:(abk a.bv)+abk a.aj.bi=abk a.aj.aC
 case neg=>rw [db (by omega),az (fun h=>hl h.2.1)];rfl
 have key:=dZ (body:=qv) (fun i=>(((abk a.aj.aC):Int),(i:Int),a.aj.aC,a.aj.be,a.aj.bi,a.bv,a.aB)) (abk a.aj.aC) (fun i=> ¬OE a i) (e:=abm) (fun i hi=>by
  have e1:abo ((i:Int)<((abk a.aj.aC):Int))=abm:=ay (by omega);unfold qv;simp (disch:=omega) only [aF,e1,ar,ai,aM];unfold OE;generalize a.aB[i]! =w at*;cases hb:a.aj.be[i]! with
  |false=>
   simp only []
   by_cases hw:w= -1
   · rw [aY hw]
     exact ⟨fun h=>absurd ⟨fun h=>(by cases h),fun _=>hw⟩ h,fun _=>rfl⟩
   rw [db hw]
   exact ⟨fun _=>rfl,fun h=>absurd ((EQ.1 h).2 trivial) hw⟩
  |true=>
   simp only []
   by_cases b1:w<0
   · rw [ay b1]
     exact ⟨fun _=>rfl,fun h=>absurd ((EQ.1 h).1 trivial).1 (by omega)⟩
   by_cases b2:((abk a.bv):Int)<=w
   · rw [az b1,ay b2]
     exact ⟨fun _=>rfl,fun h=>absurd ((EQ.1 h).1 trivial).2.1 (by omega)⟩
   rw [az b1,az b2];simp (disch:=omega) only [kN,ai]
   by_cases b3:(a.bv[w.toNat]!).2.2.2.1=i
   · rw [aY b3]
     rw [UX so];have lv:zZ ⟨a.aj.aC,a.aj.be,a.aj.bi⟩ (a.bv[w.toNat]!).2.2.2↔(a.bv[w.toNat]!).2.2.2.2=a.aj.aC[i]!:=by
      unfold zZ;dsimp only;rw [b3];constructor
      · intro h;exact h.2.2.2.symm
      intro h;exact ⟨by omega,by omega,by rw [IR];exact hb,by rw [IR];exact h.symm⟩
     simp only [lv]
     by_cases b4:(a.bv[w.toNat]!).2.2.2.2=a.aj.aC[i]!
     · rw [ay b4]
       exact ⟨fun h=>absurd ⟨fun _=>⟨by omega,by omega,b3,b4⟩,fun h=>(by cases h)⟩ h,fun _=>rfl⟩
     rw [az b4]
     exact ⟨fun _=>rfl,fun h=>absurd ((EQ.1 h).1 trivial).2.2.2 b4⟩
   rw [db b3]
   exact ⟨fun _=>rfl,fun h=>absurd ((EQ.1 h).1 trivial).2.2.1 b3⟩) (by
  unfold qv;have:abo (((abk a.aj.aC):Int)<((abk a.aj.aC):Int))=abn:=az (by omega);simp)
 grind [ay,az]
theorem Q2 (H:List Ev) (u fr W:List Int) (us:List Bool) (k:Nat) (hk:k<abk H) (hl:(abk H)<=1000000) (x:Ev):
 ((∃j,j<k/\(H[j]!).2.2.1=x.2.2.1)->aq oP ((k:Int),0,u,us,fr,H,W,x)=abl (.done 8))/\
 ((∀j,j<k-> ¬(H[j]!).2.2.1=x.2.2.1)->aq oP ((k:Int),0,u,us,fr,H,W,x)=abl (.next (((k+1:Nat):Int),u,us,fr,H,W))):=by
 refine dZ (fun j=>((k:Int),(j:Int),u,us,fr,H,W,x)) k (fun j=>(H[j]!).2.2.1=x.2.2.1) (fun j hj=>?_) ?_
 · have e1:=ay (by omega)
   unfold oP;simp (disch:=omega) only [ar,aM]
   grind
 unfold oP
 have:abo ((k:Int)<(k:Int))=abn:=az (by omega);simp (disch:=omega) only [this,ww,aM]
theorem Q3 (H:List Ev) (u fr W:List Int) (us:List Bool) (hl:(abk H)<=1000000) (eR: ∀w,w<abk H->jb ((H[w]!).1,(H[w]!).2.1)):
 aq mJ (1,u,us,fr,H,W)=abl (.done (if∀k,0<k->k<abk H-> ¬less H[k]! H[(k-1) / 2]! then 0 else 8)):=by
 by_cases h0:(abk H)=0
 · rw [AC (fun k _ hk=>by omega)]
   refine au ?_;unfold mJ;have:abo ((1:Int)<((abk H):Int))=abn:=az (by omega);simp [this,]
 have key:=dZ (body:=mJ) (fun i=>(((i+1:Nat):Int),u,us,fr,H,W)) (abk H-1) (fun i=>less H[i+1]! H[i / 2]!) (e:= .done 0) (fun i hi=>by
  have e1:abo (((i+1:Nat):Int)<((abk H):Int))=abm:=ay (by omega);unfold mJ;simp (disch:=omega) only [aF,e1,Ho,ar,ai,aag (eR (i+1) (by omega)) (eR (i / 2) (by omega)),aM];constructor
  · intro h;rw [ay h];rfl
  · intro h;rw [az h];rfl) (by
  unfold mJ;have:abo (((abk H-1+1:Nat):Int)<((abk H):Int))=abn:=az (by omega);simp only [aF,this,ww])
 by_cases ho: ∀k,0<k->k<abk H-> ¬less H[k]! H[(k-1) / 2]!
 · rw [AC ho]
   refine key.2 fun i hi hc=>ho (i+1) (by omega) (by omega) ?_
   rwa [show (i+1-1) / 2=i / 2 by omega]
 grind
def aah (H:List Ev) (k:Nat):Prop:=bu ((H[k]!).1,(H[k]!).2.1)/\0<=(H[k]!).2.2.1/\(H[k]!).2.2.1<=1000000/\(∀j,j<k-> ¬(H[j]!).2.2.1=(H[k]!).2.2.1)
theorem CV (a:aV) (fit:CU a):vC a=abl (if fP a then 0 else 8):=by
 have hh:=fit.hp;unfold vC;rw [KM _ fit.fr]
 by_cases so:iq a.aj
 case neg=>rw [Do so,Do (fun h=>so h.so)];rfl
 rw [AC so];simp only [WN a so]
 by_cases pl:(abk a.aB)=abk a.aj.aC/\abk a.bv+abk a.aj.bi=abk a.aj.aC/\ ∀i,i<abk a.aj.aC->OE a i
 case neg=>rw [az pl,Do (fun h=>pl ⟨h.wl,h.hl,h.to.1⟩)];rfl
 obtain ⟨wl,hl,hw⟩:=pl;simp;have key:=dZ (body:=sD) (fun k=>((k:Int),a.aj.aC,a.aj.be,a.aj.bi,a.bv,a.aB)) (abk a.bv) (fun k=> ¬aah a.bv k) (fun k hk=>by
  have e1:abo ((k:Int)<((abk a.bv):Int))=abm:=ay (by omega);have l1:=Q2 a.bv a.aj.aC a.aj.bi a.aB a.aj.be k hk hh a.bv[k]!;unfold sD;simp only [aF,e1,ar a.bv k hk,ai,s6 (fit.OD k hk)]
  by_cases b1:bu ((a.bv[k]!).1,(a.bv[k]!).2.1)
  case neg=>rw [Do b1];exact ⟨fun _=>rfl,fun h=>absurd (EQ.1 h).1 b1⟩
  rw [AC b1]
  by_cases b2:(a.bv[k]!).2.2.1<0
  · rw [ay b2]
    exact ⟨fun _=>rfl,fun h=>absurd (EQ.1 h).2.1 (by omega)⟩
  by_cases b3:1000000<(a.bv[k]!).2.2.1
  · rw [az b2,ay b3]
    exact ⟨fun _=>rfl,fun h=>absurd (EQ.1 h).2.2.1 (by omega)⟩
  rw [az b2,az b3]
  by_cases b4: ∃j,j<k/\(a.bv[j]!).2.2.1=(a.bv[k]!).2.2.1
  · refine ⟨fun _=>l1.1 b4,fun h=>?_⟩
    obtain ⟨j,j1,j2⟩:=b4;exact absurd j2 ((EQ.1 h).2.2.2 j j1)
  · have b4':=fun j h1 h2=>b4 ⟨j,h1,h2⟩
    exact ⟨fun h=>absurd ⟨b1,by omega,by omega,b4'⟩ h,fun _=>l1.2 b4'⟩) (by
  unfold sD;simp [];exact Q3 a.bv _ _ _ _ hh fit.OD)
 have same:fP a↔(∀k,k<abk a.bv->aah a.bv k)/\ ∀k,0<k->k<abk a.bv-> ¬less a.bv[k]! a.bv[(k-1) / 2]!:=by
  constructor
  · intro ok
    refine ⟨fun k hk=>?_,ok.ord⟩;have:=ok.to.2 k hk;exact ⟨this.1,this.2.1,this.2.2.1,this.2.2.2.1⟩
  rintro ⟨h1,h2⟩
  refine fP.of fit so wl hl hw fun k hk=>?_
  obtain ⟨c1,c2,c3,c4⟩:=h1 k hk;refine ⟨c1,c2,c3,c4,fun k0=>?_⟩;unfold Tn;rw [AC ⟨c1,(h1 ((k-1) / 2) (by omega)).1⟩,Ga];exact h2 k k0 hk
 grind
theorem Ei {l:List Ev} {n:Nat} {e:Ev} (hn:n<=abk l):e∈l.take n↔ ∃w,w<n/\l[w]! =e:=by
 grind [cE]
theorem aeN {s:bD} (so:iq s) {n:Nat} {H:List Ev} {W:List Int} (E:Ev->Prop) (hn:n<=abk H) (wl:(abk W)=abk s.aC) (hl:n+abk s.bi=abk s.aC)
 (ix: ∀w,w<n->0<=(H[w]!).ix/\(H[w]!).ix<abk W/\W[(H[w]!).n]! =(w:Int)) (mem: ∀e,(∃w,w<n/\H[w]! =e)↔E e) (ord: ∀k,0<k->k<n-> ¬less H[k]! H[(k-1) / 2]!)
 (ue: ∀i,i<abk s.aC->s.be[i]! =abm-> ∃e:Ev,E e/\e.ix=i/\e.2.2.2.2=s.aC[i]!) (un: ∀i,i<abk s.aC->s.be[i]! =abn->W[i]! = -1)
 (ev: ∀e,E e->Bf e) (DS: ∀e f:Ev,E e->E f->e.num=f.num->e.ix=f.ix):fP ⟨s,H.take n,W⟩:=by
 have len:(H.take n).length=n:=by rw [List.length_take];omega
 have cell: ∀w,w<n->(H.take n)[w]! =H[w]!:=fun w hw=>w8 hw
 refine ⟨so,wl,by grind,?_,un,?_,?_,?_⟩
 · intro i hi hu
   dsimp only at hi hu ⊢;rw [len];obtain ⟨e,he,e1,e2⟩:=ue i hi hu;obtain ⟨w,hw,rfl⟩:=(mem e).2 he;obtain ⟨a1,a2,a3⟩:=ix w hw;have hn':(H[w]!).n=i:=by show ((H[w]!).ix).toNat=i;omega
   rw [hn'] at a3;rw [a3,IR,cell w hw];exact ⟨by omega,by omega,e1,e2⟩
 · intro w hw
   dsimp only at hw ⊢;rw [len] at hw;rw [cell w hw];exact ev _ ((mem _).1 ⟨w,hw,rfl⟩)
 · intro v w hv hw
   rw [len] at hw;rw [cell v (by omega),cell w hw];intro hc;have:=DS _ _ ((mem _).1 ⟨v,by omega,rfl⟩) ((mem _).1 ⟨w,hw,rfl⟩) hc;obtain ⟨a1,a2,a3⟩:=ix v (by omega);obtain ⟨b1,b2,b3⟩:=ix w hw;have hn':(H[v]!).n=(H[w]!).n:=by show ((H[v]!).ix).toNat=((H[w]!).ix).toNat;rw [this]
   rw [hn'] at a3;omega
 intro k k0 hk
 rw [len] at hk;rw [cell k hk,cell _ (by omega)];exact ord k k0 hk
theorem zl {s:bD} (so:iq s) {n:Nat} {x:Ev} {M:Ev->Prop} {K:Nat->Prop} {H H1:List Ev} {W W1:List Int} (st:DE n x M K H W H1 W1) (hn:n<=abk H) (wl:(abk W)=abk s.aC) (hl:n+abk s.bi=abk s.aC)
 (ue: ∀i,i<abk s.aC->s.be[i]! =abm-> ∃e:Ev,(e=x\/M e)/\e.ix=i/\e.2.2.2.2=s.aC[i]!) (un: ∀i,i<abk s.aC->s.be[i]! =abn->K i/\W[i]! = -1)
 (ev: ∀e,(e=x\/M e)->Bf e) (DS: ∀e f:Ev,(e=x\/M e)->(f=x\/M f)->e.num=f.num->e.ix=f.ix):fP ⟨s,H1.take n,W1⟩:=by
 refine aeN so (fun e=>e=x\/M e) (by rw [st.hl];exact hn) (by rw [st.wl];exact wl) hl (by rw [st.wl];exact st.ix) st.mem st.ord ue ?_ ev DS;intro i hi hu;rw [st.out i (un i hi hu).1]
 grind
theorem fP.bd {a:aV} (ok:fP a):(abk a.bv)<=200/\abk a.aB<=200:=by have:=ok.hl;have:=ok.wl;have:=ok.so.n2;omega
theorem fP.cells {a:aV} (ok:fP a):yK (abk a.bv) a.bv a.aB:=by have:=ok.bd;refine ⟨PP _,by omega,fun w hw=>?_⟩;obtain ⟨b1,b2,b3,b4,b5⟩:=ok.back hw;exact ⟨ok.ev w hw,b1,by rw [ok.wl];exact b2⟩
theorem fP.inj {a:aV} (ok:fP a) {v w:Nat} (hv:v<abk a.bv) (hw:w<abk a.bv) (h:Ev.ix a.bv[v]! =Ev.ix a.bv[w]!):v=w:=by
 have h1:=(ok.back hv).2.2.2.2;have h2:=(ok.back hw).2.2.2.2
 grind
theorem fP.QW {a:aV} (ok:fP a) {i k:Nat} (i0:0<i) (k0:0<k) (hk:k<abk a.bv) (hp:(k-1) / 2=i): ¬less a.bv[k]! a.bv[(i-1) / 2]!:=by have h1:=ok.ord k k0 hk;rw [hp] at h1;exact z6 (ok.ev _ (by omega)).den (ok.ev _ (by omega)).den (ok.ev _ hk).den (ok.ord i i0 (by omega)) h1
theorem fP.live {a:aV} (ok:fP a) {h:Int×Int} (lv:zZ a.aj h): ∃i,i<abk a.bv/\a.aB[h.1.toNat]! =(i:Int)/\(a.bv[i]!).2.2.2=h:=by
 obtain ⟨l1,l2,l3,l4⟩:=lv;obtain ⟨f1,f2,f3,f4⟩:=ok.fwd h.1.toNat (by omega) l3
 grind
theorem fP.handle {a:aV} (ok:fP a) {i:Nat} (hi:i<abk a.bv):zZ a.aj (a.bv[i]!).2.2.2/\a.aB[((a.bv[i]!).2.2.2.1).toNat]! =(i:Int):=by obtain ⟨b1,b2,b3,b4,b5⟩:=ok.back hi;exact ⟨⟨b1,b2,b3,b4⟩,b5⟩
theorem fP.I5 {a:aV} (ok:fP a) {i:Nat} (hi:i<abk a.aj.aC) (hu:a.aj.be[i]! =abm): ∃w,w<abk a.bv/\Ev.ix a.bv[w]! =i/\(a.bv[w]!).2.2.2.2=a.aj.aC[i]!:=by
 obtain ⟨f1,f2,f3,f4⟩:=ok.fwd i hi hu
 grind
theorem fP.Q4 {a:aV} (ok:fP a) {i:Nat} (hu:a.aj.be[i]! =abn) {w:Nat} (hw:w<abk a.bv):Ev.n a.bv[w]!≠i:=by
 have:=(ok.back hw).2.2.1
 grind
theorem fP.DS {a:aV} (ok:fP a) {v w:Nat} (hv:v<abk a.bv) (hw:w<abk a.bv) (h:Ev.num a.bv[v]! =Ev.num a.bv[w]!):v=w:=by
 rcases aaF v w with h1|h1|h1
 · exact absurd h (ok.nd v w h1 hw)
 · exact h1
 exact absurd h.symm (ok.nd w v h1 hv)
def Q5 (x:Ev) (t:Int×Int):Ev:=(t.1,t.2,x.2.2)
noncomputable def pP (a:aV) (i:Nat) (t:Int×Int):aV:=⟨a.aj,(ir (abk a.bv) (Q5 a.bv[i]! t) i a.bv a.aB).1,(ir (abk a.bv) (Q5 a.bv[i]! t) i a.bv a.aB).2⟩
theorem Q6 {a:aV} (ok:fP a) {i:Nat} (hi:i<abk a.bv) {t:Int×Int} (ht:bu t) (h64:jb t):Bf (Q5 a.bv[i]! t):=by have:=ok.ev i hi;exact ⟨ht,h64,this.2.2.1,this.2.2.2⟩
theorem To {a:aV} (ok:fP a) {i:Nat} (hi:i<abk a.bv) (t:Int×Int):F' (abk a.bv) (Q5 a.bv[i]! t) (fun e=> ∃w,w<abk a.bv/\w≠i/\a.bv[w]! =e) a.bv a.aB i:=by obtain ⟨b1,b2,b3,b4,b5⟩:=ok.back hi;refine ⟨hi,PP _,fun w hw WM=>?_,b1,by rw [ok.wl];exact b2,fun e=>ab3⟩;obtain ⟨c1,c2,c3,c4,c5⟩:=ok.back hw;exact ⟨c1,by rw [ok.wl];exact c2,c5,fun h=>WM (ok.inj hw hi h)⟩
theorem WQ {a:aV} (ok:fP a) (i:Nat):Ord (abk a.bv) a.bv i:=
 ⟨fun w hw=>(ok.ev w hw).den,fun k k0 hk _ _=>ok.ord k k0 hk,fun i0 _k k0 hk hp=>ok.QW i0 k0 hk hp⟩
theorem u9 {a:aV} (ok:fP a) {i:Nat} (hi:i<abk a.bv) {t:Int×Int} (ht:bu t):
 DE (abk a.bv) (Q5 a.bv[i]! t) (fun e=> ∃w,w<abk a.bv/\w≠i/\a.bv[w]! =e) (fun k=>k≠Ev.n (Q5 a.bv[i]! t)/\ ∀w,w<abk a.bv->w≠i->Ev.n a.bv[w]!≠k) a.bv a.aB (pP a i t).bv (pP a i t).aB:=
 CS ht.1 (To ok hi t) (WQ ok i)
theorem Hr {a:aV} (ok:fP a) {i:Nat} (hi:i<abk a.bv) {t:Int×Int} (ht:bu t):(pP a i t).bv.length=abk a.bv/\(pP a i t).aB.length=(abk a.aB):=
 ⟨(u9 ok hi ht).hl,(u9 ok hi ht).wl⟩
theorem WR {a:aV} (ok:fP a) {i:Nat} (hi:i<abk a.bv) {t:Int×Int} (ht:bu t) (e:Ev):e∈(pP a i t).bv↔(e=Q5 a.bv[i]! t\/(e∈a.bv/\e≠a.bv[i]!)):=by
 have st:=u9 ok hi ht;have h1:e∈(pP a i t).bv↔ ∃w,w<abk a.bv/\((pP a i t).bv)[w]! =e:=by rw [aS,(Hr ok hi ht).1]
 rw [h1];refine (st.mem e).trans ?_;constructor
 · rintro (h|⟨w,hw,WM,rfl⟩)
   · exact .inl h
   exact .inr ⟨aK hw,fun h=>WM (ok.inj hw hi (by rw [h]))⟩
 rintro (h|⟨h,fy⟩)
 · exact .inl h
 obtain ⟨w,hw,rfl⟩:=aS.1 h
 grind
theorem aai {a:aV} (ok:fP a) {i:Nat} (hi:i<abk a.bv) {t:Int×Int} (ht:bu t) (h64:jb t):fP (pP a i t):=by
 have st:=u9 ok hi ht;have len:=(Hr ok hi ht).1;have key:=zl ok.so st (PP _) ok.wl ok.hl (fun j hj hu=>by
  obtain ⟨w,hw,e1,e2⟩:=ok.I5 hj hu
  by_cases e:w=i
  · subst e;exact ⟨Q5 a.bv[w]! t,.inl rfl,e1,e2⟩
  · exact ⟨a.bv[w]!,.inr ⟨w,hw,e,rfl⟩,e1,e2⟩) (fun j hj hu=>⟨⟨(ok.Q4 hu hi).symm,fun w hw _=>ok.Q4 hu hw⟩,ok.un j hj hu⟩) (by
  rintro e (rfl|⟨w,hw,_,rfl⟩)
  · exact Q6 ok hi ht h64
  · exact ok.ev w hw) (by
  rintro e f (rfl|⟨v,hv,hvi,rfl⟩) (rfl|⟨w,hw,WM,rfl⟩) he
  · rfl
  · exact absurd (ok.DS hi hw he).symm WM
  · exact absurd (ok.DS hv hi he) hvi
  rw [ok.DS hv hw he])
 show fP ⟨a.aj,(pP a i t).bv,(pP a i t).aB⟩
 grind
theorem Q7 {a:aV} (ok:fP a) (fit:CU a) {h:Int×Int} {i:Nat} (hi:i<abk a.bv) (hh:(a.bv[i]!).2.2.2=h):sW a h=abl ((i:Int),0):=by
 obtain ⟨lv,wv⟩:=ok.handle hi;unfold sW;rw [lh a fit,AC ok];simp [Ih ok.so,];have:=lv.2.1;have:=lv.1;have:=ok.wl
 grind [kN]
theorem IM {a:aV} (ok:fP a) (fit:CU a) {h t:Int×Int} {i:Nat} (hi:i<abk a.bv) (hh:(a.bv[i]!).2.2.2=h) (ht:bu t) (h64:jb t):wR a h t=abl (pP a i t,0):=by
 have bd:=ok.bd;obtain ⟨b1,b2,b3,b4,b5⟩:=ok.back hi;unfold wR;rw [lh a fit,AC ok,bQ h64,AC ht];have pl:=Q7 ok fit hi hh;have se:=KK (u:=a.aj.aC) (us:=a.aj.be) (fr:=a.aj.bi) (Q6 ok hi ht h64) (b1) ok.cells rfl hi (by rw [ok.wl];exact b2);have se':fK (a.aj.aC,a.aj.be,a.aj.bi,(i:Int),t.1,t.2,(a.bv[i]!).2.2.1,(a.bv[i]!).2.2.2.1,(a.bv[i]!).2.2.2.2,a.bv,a.aB)=abl _:=se;simp (disch:=omega) only [ai,pl,cj,ar a.bv i hi,se'];rfl
theorem M4 (H:List Ev) (n:Int) (hl:(abk H)<=1000000):dj H n=abl (abo (∃w,w<abk H/\(H[w]!).2.2.1=n)):=by
 unfold dj fD;have key:=pf (body:=di) (fun i=>(H,n,((abk H):Int),(i:Int))) (abk H) (fun i=>(H[i]!).2.2.1=n) (fun i=>(i:Int)) (e:= -1) (fun i hi=>by
  have e1:abo ((i:Int)<((abk H):Int))=abm:=ay (by omega);unfold di zi;simp (disch:=omega) only [e1,ar H i hi,ai,aM];constructor
  · intro h;rw [lL h];rfl
  · intro h;rw [jm h];rfl) (by
  unfold di;simp)
 rw [aF]
 by_cases hx: ∃w,w<abk H/\(H[w]!).2.2.1=n
 · obtain ⟨k,h1,h2,h3⟩:=least hx
   have:=key.1 k h1 h2 h3;rw [show ((0:Nat):Int)=0 from rfl] at this;rw [this,ay hx];simp (disch:=omega) only [ai,ay]
 simp_all
noncomputable def pV (a:aV) (t:Int×Int) (n:Int):Ev:=(t.1,t.2,n,wU a.aj)
noncomputable def s7 (a:aV) (t:Int×Int) (n:Int):aV:=
 ⟨qP a.aj,(ir (abk a.bv+1) (pV a t n) (abk a.bv) (a.bv++[pV a t n]) a.aB).1,(ir (abk a.bv+1) (pV a t n) (abk a.bv) (a.bv++[pV a t n]) a.aB).2⟩
section
variable {a : aV} (ok : fP a) (op : F8 a.aj) {t : Int × Int} (ht : bu t) (h64 : jb t) {n : Int} (n0 : 0 <= n) (n1 : n <= 1000000)
include ok op
theorem I6:Ev.ix (pV a t n)=(nX a.aj:Int)/\nX a.aj<abk a.aj.aC/\a.aj.be[nX a.aj]! =abn/\abk a.aj.bi=(qP a.aj).bi.length+1:=by
 obtain ⟨h1,h2,h3⟩:=I2 ok.so op.1;refine ⟨rfl,h1,?_,?_⟩
 · have:=ok.so.uf _ h1
   grind
 show _=(a.aj.bi.take _).length+1
 grind
theorem WT:F' (abk a.bv+1) (pV a t n) (fun e=>e∈a.bv) (a.bv++[pV a t n]) a.aB (abk a.bv):=by
 obtain ⟨h1,h2,h3,h4⟩:=I6 ok op;have cell: ∀w,w<abk a.bv->(a.bv++[pV a t n])[w]! =a.bv[w]!:=fun w hw=>iO hw
 refine ⟨by omega,by simp,fun w hw WM=>?_,by rw [h1];omega,by rw [h1,ok.wl];omega,fun e=>?_⟩
 · have hw':w<(abk a.bv):=by omega
   rw [cell w hw'];obtain ⟨c1,c2,c3,c4,c5⟩:=ok.back hw';refine ⟨c1,by rw [ok.wl];exact c2,c5,fun h=>?_⟩
   grind
 constructor
 · grind
 intro h
 obtain ⟨w,hw,rfl⟩:=aS.1 h
 grind
theorem aaj (ht:bu t):Ord (abk a.bv+1) (a.bv++[pV a t n]) (abk a.bv):=by
 have:=op
 have cell: ∀w,w<abk a.bv->(a.bv++[pV a t n])[w]! =a.bv[w]!:=fun w hw=>iO hw
 refine ⟨fun w hw=>?_,fun k k0 hk k1 k2=>?_,fun i0 k k0 hk hp=>by omega⟩
 · by_cases h:w<abk a.bv
   · rw [cell w h];exact (ok.ev w h).den
   have:w=(abk a.bv):=by omega
   subst this;rw [xK (PP _),abi];exact ht.1
 rw [cell k (by omega),cell _ (by omega)]
 exact ok.ord k k0 (by omega)
theorem Bi (ht:bu t):DE (abk a.bv+1) (pV a t n) (fun e=>e∈a.bv) (fun k=>k≠Ev.n (pV a t n)/\ ∀w,w<abk a.bv+1->w≠abk a.bv->Ev.n (a.bv++[pV a t n])[w]!≠k) (a.bv++[pV a t n]) a.aB (s7 a t n).bv (s7 a t n).aB:=
 CS ht.1 (WT ok op) (aaj ok op ht)
theorem Gc (ht:bu t):(s7 a t n).bv.length=abk a.bv+1:=by have:=(Bi (n:=n) ok op ht).hl;rw [this];simp
theorem Q8 (ht:bu t) (e:Ev):e∈(s7 a t n).bv↔(e=pV a t n\/e∈a.bv):=by have st:=Bi (n:=n) ok op ht;rw [aS,Gc ok op ht];exact st.mem e
theorem Tp (ht:bu t) (h64:jb t) (n0:0<=n) (n1:n<=1000000):Bf (pV a t n):=by have:=ok;have:=op;exact ⟨ht,h64,n0,n1⟩
theorem UY (ht:bu t) (h64:jb t) (n0:0<=n) (n1:n<=1000000) (nn: ∀e∈a.bv,Ev.num e≠n):fP (s7 a t n):=by
 have st:=Bi (n:=n) ok op ht;have len:=Gc (n:=n) ok op ht;obtain ⟨h1,h2,h3,h4⟩:=I6 ok op;have hu:=ok.so.ul;have ul:(qP a.aj).aC.length=(abk a.aj.aC):=NE;have key:=zl (aaf ok.so op) st (by simp) (by rw [ul];exact ok.wl) (by rw [ul];have:=ok.hl;omega) (fun j hj HR=>by
  rw [ul] at hj;change (a.aj.be.set _ abm)[j]! =abm at HR;rw [cf] at HR;show∃e:Ev,_/\_/\_=(a.aj.aC.set _ _)[j]!;rw [cf]
  by_cases e:j=nX a.aj
  · rw [AC ⟨e,h2⟩]
    exact ⟨pV a t n,.inl rfl,by rw [h1,e],rfl⟩
  · rw [Do (fun k=>e k.1)]
    rw [Do (fun k=>e k.1)] at HR;obtain ⟨w,hw,e1,e2⟩:=ok.I5 hj HR;exact ⟨a.bv[w]!,.inr (aK hw),e1,e2⟩) (fun j hj HR=>by
  rw [ul] at hj;change (a.aj.be.set _ abm)[j]! =abn at HR;rw [cf] at HR
  by_cases e:j=nX a.aj
  · rw [AC ⟨e,by omega⟩] at HR;cases HR
  · rw [Do (fun k=>e k.1)] at HR
    refine ⟨⟨?_,fun w hw WM=>?_⟩,ok.un j hj HR⟩
    · show j≠(Ev.ix _).toNat
      omega
    rw [iO (by omega)]
    exact ok.Q4 HR (by omega)) (by
  rintro e (rfl|h)
  · exact Tp ok op ht h64 n0 n1
  · obtain ⟨w,hw,rfl⟩:=aS.1 h
    exact ok.ev w hw) (by
  rintro e f (rfl|he) (rfl|hf) hn
  · rfl
  · exact absurd hn.symm (nn f hf)
  · exact absurd hn (nn e he)
  obtain ⟨v,hv,rfl⟩:=aS.1 he
  obtain ⟨w,hw,rfl⟩:=aS.1 hf;rw [ok.DS hv hw hn])
 show fP ⟨qP a.aj,(s7 a t n).bv,(s7 a t n).aB⟩
 grind
theorem Tq (ht:bu t) (h64:jb t) (n0:0<=n) (n1:n<=1000000):yK (abk a.bv+1) (a.bv++[pV a t n]) a.aB:=by
 have bd:=ok.bd;obtain ⟨h1,h2,h3,h4⟩:=I6 (t:=t) (n:=n) ok op;refine ⟨by simp,by simp;omega,fun w hw=>?_⟩
 by_cases h:w<abk a.bv
 · rw [iO h];exact ok.cells.ev w h
 have:w=(abk a.bv):=by omega
 subst this;rw [xK (PP _),abi];exact ⟨Tp ok op ht h64 n0 n1,by grind,by show Ev.ix (pV a t n)<_;rw [ok.wl];omega⟩
theorem z7 (fit:CU a) (ht:bu t) (h64:jb t) (n0:0<=n) (n1:n<=1000000) (nn: ∀e∈a.bv,Ev.num e≠n):nu a t n=abl (s7 a t n,wU a.aj,0):=by
 have bd:=ok.bd;obtain ⟨h1,h2,h3,h4⟩:=I6 (t:=t) (n:=n) ok op;have hn: ¬ ∃w,w<abk a.bv/\(a.bv[w]!).2.2.1=n:=by
  grind
 unfold nu;rw [lh a fit,AC ok,bQ h64,AC ht,M4 _ _ (by omega),az hn,F9 ok.so,AC op];have se:=KK (u:=(qP a.aj).aC) (us:=(qP a.aj).be) (fr:=(qP a.aj).bi) (Tp ok op ht h64 n0 n1) (by omega) (Tq ok op ht h64 n0 n1) (by simp) (show (abk a.bv)<abk a.bv+1 by omega) (by rw [ok.wl];omega);have e1:aa .i64 (((a.bv++[pV a t n]).length:Int) -1)=((abk a.bv):Int):=by rw [wi,abd];simp;omega
 have ap:aX a.bv [(t.1,t.2,n,wU a.aj)]=abl (a.bv++[pV a t n]):=bA (by simp;omega);have se':fK ((qP a.aj).aC,(qP a.aj).be,(qP a.aj).bi,((abk a.bv):Int),t.1,t.2,n,(wU a.aj).1,(wU a.aj).2,a.bv++[pV a t n],a.aB)=abl _:=se;simp (disch:=omega) only [ai,az,cj,ap,aF,e1,se'];rfl
end
theorem z8 {a:aV} (ok:fP a) (op: ¬F8 a.aj) (fit:CU a) {t:Int×Int} (ht:bu t) (h64:jb t) {n:Int} (n0:0<=n) (n1:n<=1000000) (nn: ∀e∈a.bv,Ev.num e≠n):nu a t n=abl (⟨⟨[],[],[]⟩,[],[]⟩,(0,0),18):=by
 have bd:=ok.bd;have hn: ¬ ∃w,w<abk a.bv/\(a.bv[w]!).2.2.1=n:=by rintro ⟨w,hw,e⟩;exact nn _ (aK hw) e
 unfold nu;rw [lh a fit,AC ok,bQ h64,AC ht,M4 _ _ (by omega),az hn,F9 ok.so,Do op]
 grind
noncomputable def fV (a:aV) (i:Nat):aV:=
 if i<abk a.bv-1 then ⟨qO a.aj (a.bv[i]!).2.2.2,(ir (abk a.bv-1) a.bv[abk a.bv-1]! i a.bv (a.aB.set (Ev.n a.bv[i]!) (-1))).1.take (abk a.bv-1),(ir (abk a.bv-1) a.bv[abk a.bv-1]! i a.bv (a.aB.set (Ev.n a.bv[i]!) (-1))).2⟩
 else ⟨qO a.aj (a.bv[i]!).2.2.2,a.bv.take (abk a.bv-1),a.aB.set (Ev.n a.bv[i]!) (-1)⟩
section
variable {a : aV} (ok : fP a) {i : Nat} (hi : i < (abk a.bv))
include ok hi
theorem Hs {w:Nat} (hw:w<abk a.bv) (fy:w≠i):Ev.n a.bv[w]!≠Ev.n a.bv[i]!:=by have h1:=(ok.back hw).1;have h2:=(ok.back hi).1;exact as6 h1 h2 fun h=>fy (ok.inj hw hi h)
theorem WU:yK (abk a.bv-1) a.bv (a.aB.set (Ev.n a.bv[i]!) (-1)):=by have c:=ok.cells;refine ⟨by omega,c.hb,fun w hw=>?_⟩;rw [NE];exact c.ev w (by omega)
theorem aak (iz:i<abk a.bv-1):F' (abk a.bv-1) a.bv[abk a.bv-1]! (fun e=> ∃w,w<abk a.bv-1/\w≠i/\a.bv[w]! =e) a.bv (a.aB.set (Ev.n a.bv[i]!) (-1)) i:=by
 obtain ⟨b1,b2,b3,b4,b5⟩:=ok.back (show (abk a.bv)-1<(abk a.bv) by omega);refine ⟨iz,by omega,fun w hw WM=>?_,b1,by rw [NE,ok.wl];exact b2,fun e=>ab3⟩;obtain ⟨c1,c2,c3,c4,c5⟩:=ok.back (show w<(abk a.bv) by omega);refine ⟨c1,by rw [NE,ok.wl];exact c2,?_,fun h=>?_⟩
 · rw [cf,Do (fun h=>Hs ok hi (by omega) WM h.1)]
   exact c5
 grind
theorem ac8:Ord (abk a.bv-1) a.bv i:=
 ⟨fun w hw=>(ok.ev w (by omega)).den,fun k k0 hk _ _=>ok.ord k k0 (by omega),fun i0 k k0 hk hp=>ok.QW i0 k0 (by omega) hp⟩
theorem Ii (iz:i<abk a.bv-1):
 DE (abk a.bv-1) a.bv[abk a.bv-1]! (fun e=> ∃w,w<abk a.bv-1/\w≠i/\a.bv[w]! =e) (fun k=>k≠Ev.n a.bv[abk a.bv-1]!/\ ∀w,w<abk a.bv-1->w≠i->Ev.n a.bv[w]!≠k) a.bv (a.aB.set (Ev.n a.bv[i]!) (-1))
  (ir (abk a.bv-1) a.bv[abk a.bv-1]! i a.bv (a.aB.set (Ev.n a.bv[i]!) (-1))).1 (ir (abk a.bv-1) a.bv[abk a.bv-1]! i a.bv (a.aB.set (Ev.n a.bv[i]!) (-1))).2:=
 CS (ok.ev (abk a.bv-1) (by omega)).den (aak ok hi iz) (ac8 ok hi)
theorem M5:iq (qO a.aj (a.bv[i]!).2.2.2):=aae ok.so (ok.handle hi).1
theorem CW {j:Nat} (hj:j<abk a.aj.aC):(qO a.aj (a.bv[i]!).2.2.2).be[j]! =if j=Ev.n a.bv[i]! then abn else a.aj.be[j]!:=by
 show (a.aj.be.set _ abn)[j]! =_;have:=ok.so.ul
 grind
theorem Ht:fP (fV a i):=by
 have hb:=ok.back hi;have hl:(abk a.bv)-1+(qO a.aj (a.bv[i]!).2.2.2).bi.length=(abk a.aj.aC):=by
  show (abk a.bv)-1+(a.aj.bi++[_]).length=_;rw [abd];have:=ok.hl
  grind
 have un: ∀j,j<abk a.aj.aC->(qO a.aj (a.bv[i]!).2.2.2).be[j]! =abn->(a.aB.set (Ev.n a.bv[i]!) (-1))[j]! = -1:=by
  intro j hj hu;rw [CW ok hi hj] at hu;rw [cf]
  by_cases e:j=Ev.n a.bv[i]!
  · rw [AC ⟨e.symm▸rfl,by rw [ok.wl];omega⟩]
  rw [Do e] at hu
  rw [Do (fun k=>e k.1)];exact ok.un j hj hu
 unfold fV
 by_cases iz:i<abk a.bv-1
 · rw [AC iz]
   have st:=Ii ok hi iz;refine zl (M5 ok hi) st (by omega) (by rw [NE];exact ok.wl) hl (fun j hj hu=>?_) (fun j hj hu=>⟨⟨?_,fun w hw WM=>?_⟩,un j hj hu⟩) ?_ ?_
   · change j<(abk a.aj.aC) at hj
     rw [CW ok hi hj] at hu
     by_cases e:j=Ev.n a.bv[i]!
     · grind
     rw [Do e] at hu
     obtain ⟨w,hw,e1,e2⟩:=ok.I5 hj hu;refine ⟨a.bv[w]!,?_,e1,e2⟩
     grind
   · change j<(abk a.aj.aC) at hj
     rw [CW ok hi hj] at hu
     by_cases e:j=Ev.n a.bv[i]!
     · grind [Hs]
     rw [Do e] at hu
     exact (ok.Q4 hu (by omega)).symm
   · change j<(abk a.aj.aC) at hj
     rw [CW ok hi hj] at hu
     by_cases e:j=Ev.n a.bv[i]!
     · grind [Hs]
     rw [Do e] at hu
     exact ok.Q4 hu (by omega)
   · rintro e (rfl|⟨w,hw,_,rfl⟩)
     · exact ok.ev _ (by omega)
     exact ok.ev w (by omega)
   rintro e f (rfl|⟨v,hv,hvi,rfl⟩) (rfl|⟨w,hw,WM,rfl⟩) he
   · rfl
   · rw [ok.DS (by omega) (by omega) he]
   · rw [ok.DS (by omega) (by omega) he]
   rw [ok.DS (by omega) (by omega) he]
 rw [Do iz]
 have hie:i=abk a.bv-1:=by omega
 refine aeN (M5 ok hi) (fun e=> ∃w,w<abk a.bv-1/\a.bv[w]! =e) (by omega) (by rw [NE];exact ok.wl) hl (fun w hw=>?_) (fun e=>ab3) (fun k k0 hk=>ok.ord k k0 (by omega)) (fun j hj hu=>?_) un ?_ ?_
 · obtain ⟨c1,c2,c3,c4,c5⟩:=ok.back (show w<(abk a.bv) by omega)
   refine ⟨c1,by rw [NE,ok.wl];exact c2,?_⟩
   grind
 · change j<(abk a.aj.aC) at hj
   rw [CW ok hi hj] at hu
   by_cases e:j=Ev.n a.bv[i]!
   · grind
   rw [Do e] at hu
   obtain ⟨w,hw,e1,e2⟩:=ok.I5 hj hu;refine ⟨a.bv[w]!,⟨w,?_,rfl⟩,e1,e2⟩
   grind
 · rintro e ⟨w,hw,rfl⟩
   exact ok.ev w (by omega)
 rintro e f ⟨v,hv,rfl⟩ ⟨w,hw,rfl⟩ he
 rw [ok.DS (by omega) (by omega) he]
theorem KN (e:Ev):e∈(fV a i).bv↔(e∈a.bv/\e≠a.bv[i]!):=by
 have other: ∀w,w<abk a.bv->(a.bv[w]!≠a.bv[i]!↔w≠i):=fun w hw=>⟨fun h k=>h (by rw [k]),fun h k=>h (ok.inj hw hi (by rw [k]))⟩
 unfold fV
 by_cases iz:i<abk a.bv-1
 · rw [AC iz]
   have st:=Ii ok hi iz;show e∈(_:List Ev).take _↔_;rw [Ei (by rw [st.hl];omega)];refine (st.mem e).trans ?_;constructor
   · grind
   rintro ⟨h,fy⟩
   obtain ⟨w,hw,rfl⟩:=aS.1 h
   grind
 rw [Do iz]
 rw [Ei (by omega)];constructor
 · grind
 rintro ⟨h,fy⟩
 obtain ⟨w,hw,rfl⟩:=aS.1 h
 grind
theorem Hu:uZ a (i:Int)=abl (fV a i,a.bv[i]!,0):=by
 have bd:=ok.bd;obtain ⟨b1,b2,b3,b4,b5⟩:=ok.back hi;obtain ⟨c1,c2,c3,c4,c5⟩:=ok.back (show (abk a.bv)-1<(abk a.bv) by omega);unfold uZ;have e1:aa .i64 _=((abk a.bv-1:Nat):Int):=u7 (by omega) (by omega);have g1:=kN b1 (by rw [ok.wl];exact b2);have ws:cA a.aB _ _=a.aB.set (Ev.n a.bv[i]!) (-1):=rfl;simp (disch:=omega) only [ai,OA ok.so (ok.handle hi).1,cj,aF,e1,ar,pO,g1,ws,IR];unfold fV
 by_cases iz:i<abk a.bv-1
 · rw [ay (by omega),AC iz]
   have se:=Tm (cap:=abk a.bv) (u:=(qO a.aj (a.bv[i]!).2.2.2).aC) (us:=(qO a.aj (a.bv[i]!).2.2.2).be) (fr:=(qO a.aj (a.bv[i]!).2.2.2).bi) (ok.ev (abk a.bv-1) (by omega)) (c1) (WU ok hi) iz (by rw [NE,ok.wl];exact c2);rw [se];rfl
 grind
theorem Aa (fit:CU a) {h:Int×Int} (hh:(a.bv[i]!).2.2.2=h):oi a h=abl (fV a i,a.bv[i]!,0):=by unfold oi;rw [Q7 ok fit hi hh];simp_all [Hu]
end
abbrev vY:=Int×Int×Int
theorem fP.fit {a:aV} (ok:fP a):CU a:=by have bd:=ok.bd;have:=ok.so.fl;have:=ok.so.n2;exact ⟨by omega,by omega,by omega,fun w hw=>(ok.ev w hw).2.1⟩
theorem s8 (l:List vY) (id:Int) (hl:(abk l)<=1000000) (hs: ∀i j,i<j->j<abk l->(l[i]!).1<(l[j]!).1):
 (∀k,k<abk l->(l[k]!).1=id->aZ l id ()=abl ((k:Int),abm))/\
 ((∀k,k<abk l->(l[k]!).1≠id)-> ∃m,m<=abk l/\(∀i,i<m->(l[i]!).1<id)/\(∀i,m<=i->i<abk l->id<(l[i]!).1)/\aZ l id ()=abl ((m:Int),abn)):=by
 obtain ⟨m,m1,m2,m3⟩:=QV (fun i=>(l[i]!).1) id (abk l) hs;have run:aZ l id ()=aq ba (l,id,((abk l):Int),(m:Int),(m:Int)):=by
  refine Hm (fun lo hi=>(l,id,((abk l):Int),(lo:Int),(hi:Int))) (abk l) m (fun i=>(l[i]!).1<id) (fun lo hi h1 h2=>?_) m2 (fun i h1 h2 h3=>by have:=m3 i h1 h2;omega) (abk l) 0 (abk l) (by omega) (by omega) m1 (PP _);have e1:abo ((lo:Int)<(hi:Int))=abm:=ay (by omega);have hh:=ac3 (a:=lo) (b:=hi) (by omega) (by omega);unfold ba vI;simp (disch:=omega) only [e1,hh,ar,mX,ai,aM];constructor
  · intro h
    have:abo (mj (l[(lo+hi) / 2]!).1 id<0)=abm:=by rcases dM _ id with ⟨a,e⟩|⟨a,e⟩|⟨a,e⟩<;>rw [e]<;>first|rfl|omega
    rw [this];rfl
  intro h
  have:abo (mj (l[(lo+hi) / 2]!).1 id<0)=abn:=by rcases dM _ id with ⟨a,e⟩|⟨a,e⟩|⟨a,e⟩<;>rw [e]<;>first|rfl|omega
  rw [this];rfl
 have fin:aq ba (l,id,((abk l):Int),(m:Int),(m:Int))=if m<abk l/\(l[m]!).1=id then abl ((m:Int),abm) else abl ((m:Int),abn):=by
  have e1:abo ((m:Int)<(m:Int))=abn:=az (by omega)
  by_cases hm:m<abk l
  · have e2:abo ((m:Int)<((abk l):Int))=abm:=ay (by omega)
    have body:ba (l,id,((abk l):Int),(m:Int),(m:Int))=abl (.done ((m:Int),mj (l[m]!).1 id==0)):=by unfold ba vI;simp only [e1,e2,v6,ww,ar l m hm,mX,ai]
    rw [au body];rcases dM _ id with ⟨a,e⟩|⟨a,e⟩|⟨a,e⟩
    · rw [e,Do (fun h=>by omega)];rfl
    · rw [e,AC ⟨hm,a⟩];rfl
    rw [e,Do (fun h=>by omega)];rfl
  have e2:abo ((m:Int)<((abk l):Int))=abn:=az (by omega)
  have body:ba (l,id,((abk l):Int),(m:Int),(m:Int))=abl (.done ((m:Int),abn)):=by unfold ba;simp only [e1,e2,ww]
  rw [au body,Do (fun h=>hm h.1)]
 rw [run,fin];constructor
 · intro k hk he
   have hkm:k=m:=by
    rcases aaF k m with h|h|h
    · have:=m2 k h;omega
    · exact h
    have h1:=m3 m (PP _) (by omega)
    have h2:=hs m k h hk;omega
   subst hkm;rw [AC ⟨hk,he⟩]
 grind
theorem ag6:dK=aZ:=rfl
theorem aal:dA=aZ:=rfl
theorem DH:dE=aZ:=rfl
theorem Gd {α:Type} (l:List α) (k:Nat):l.eraseIdx k=l.take k++l.drop (k+1):=List.eraseIdx_eq_take_drop_succ l k
theorem CX (l:List vY) (k:Nat) (hk:k<abk l): ∃L:List vY,dp ((k:Int),((k+1:Nat):Int),l)=abl (abk l-1,abk l,L)/\L.take (abk l-1)=l.eraseIdx k:=by
 unfold dp;have e1:abo ((0:Int)<=(k:Int))=abm:=ay (by omega);have e2:abo ((k:Int)<=((k+1:Nat):Int))=abm:=ay (by omega);have e3:abo (((k+1:Nat):Int)<=((abk l):Int))=abm:=ay (by omega);have e4:abo (((abk l):Int)<=((abk l):Int))=abm:=ay (by omega);have e5:((k:Int)==((k+1:Nat):Int))=abn:=jm (by omega);have e6:abo ((0:Int)<=((k+1:Nat):Int))=abm:=ay (by omega);have e7:abo ((k:Int)<=((abk l):Int))=abm:=ay (by omega);have dr:(l.drop (k+1)).take (abk l- (k+1))=l.drop (k+1):=List.take_of_length_le (by simp);have dl:(l.drop (k+1)).length=abk l- (k+1):=List.length_drop;simp only [aF,e1,e2,e3,e4,e5,e6,e7,pO l k (by omega),ai,IR,Nat.zero_add,dr,dl,abb,Bool.and_true]
 by_cases h:k+1=abk l
 · have em:(l.drop (k+1)).isEmpty=abm:=by rw [abf,WF];omega
   have n1:abj (abk l-k) 0=abn:=by
    cases hb:abj (abk l-k) 0 with
    |false=>rfl
    |true=>have:=aba hb;omega
   have n2:Nat.ble (k+(abk l-k)) (abk l)=abm:=UV (by omega);have ll:(gy l k (abh (abk l-k) ((0:Int),(0:Int),(0:Int)))).length=(abk l):=by unfold gy;simp;omega
   simp only [em,v6,n1,ww,n2,ll,beq_self_eq_true];refine ⟨_,by rw [show k=abk l-1 by omega],?_⟩;rw [Gd,show (abk l)-1=k by omega];unfold gy
   grind
 have em:(l.drop (k+1)).isEmpty=abn:=by
  cases hb:(l.drop (k+1)).isEmpty with
  |false=>rfl
  |true=>rw [abf,WF] at hb;omega
 have n1:Nat.ble (k+(abk l- (k+1))) (abk l)=abm:=UV (by omega);have n2:abo ((0:Int)<=((k+(abk l- (k+1)):Nat):Int))=abm:=ay (by omega);have n3:abo (((k+(abk l- (k+1)):Nat):Int)<=((abk l):Int))=abm:=ay (by omega);have n4:abj (abk l- (k+(abk l- (k+1)))) 0=abn:=by
  cases hb:abj (abk l- (k+(abk l- (k+1)))) 0 with
  |false=>rfl
  |true=>have:=aba hb;omega
 have l1:(gy l k (l.drop (k+1))).length=(abk l):=by unfold gy;simp;omega
 have n5:Nat.ble (k+(abk l- (k+1))+(abk l- (k+(abk l- (k+1))))) (abk l)=abm:=UV (by omega);have l2:(gy (gy l k (l.drop (k+1))) (k+(abk l- (k+1))) (abh (abk l- (k+(abk l- (k+1)))) ((0:Int),(0:Int),(0:Int)))).length=(abk l):=by unfold gy;simp;omega
 simp only [em,ww,n1,v6,n2,n3,Bool.and_self,n4,l1,n5,l2,beq_self_eq_true];refine ⟨_,by rw [show k+(abk l- (k+1))=abk l-1 by omega],?_⟩;rw [Gd];have:k+(abk l- (k+1))=abk l-1:=by omega
 unfold gy
 grind
theorem Ts:nI=dp:=rfl
theorem KO {α:Type} [Inhabited α] {l:List α} {k i:Nat}:(l.eraseIdx k)[i]! =if i<k then l[i]! else l[i+1]!:=by
 grind
def jq (x:Int×Int):Prop:=0<=x.1/\x.1<=65535/\0<=x.2/\x.2<=65535/\x.1≠x.2
theorem Ej (x:Int×Int):xC x=abl (abo (jq x)):=by
 obtain ⟨a,b⟩:=x;unfold xC
 by_cases h1:0<=a
 · by_cases h3:0<=b
   · have e1:abo (0<=if b<a then b else a)=abm:=ay (by split<;>omega)
     rw [e1]
     by_cases h2:a<=65535
     · by_cases h4:b<=65535
       · have e2:abo ((if b>a then b else a)<=65535)=abm:=ay (by split<;>omega)
         rw [e2]
         by_cases h5:a=b
         · rw [aY h5,az (fun h=>h.2.2.2.2 h5)];rfl
         rw [db h5,ay ⟨h1,h2,h3,h4,h5⟩];rfl
       have e2:abo ((if b>a then b else a)<=65535)=abn:=az (by split<;>omega)
       rw [e2,az (fun h=>h4 h.2.2.2.1)];rfl
     have e2:abo ((if b>a then b else a)<=65535)=abn:=az (by split<;>omega)
     rw [e2,az (fun h=>h2 h.2.1)];rfl
   have e1:abo (0<=if b<a then b else a)=abn:=az (by split<;>omega)
   rw [e1,az (p:=jq _) (fun h=>h3 h.2.2.1)];rfl
 have e1:abo (0<=if b<a then b else a)=abn:=az (by split<;>omega)
 rw [e1,az (p:=jq _) (fun h=>h1 h.1)];rfl
theorem L3 (x:Int×Int):AX x=abl (abo (jq x)):=by
 obtain ⟨a,b⟩:=x;unfold AX
 by_cases h1:0<=a
 · by_cases h2:a<=65535
   · by_cases h3:0<=b
     · by_cases h4:b<=65535
       · by_cases h5:a=b
         · rw [aY h5,ay h1,ay h2,ay h3,ay h4,az (fun h=>h.2.2.2.2 h5)];rfl
         rw [db h5,ay h1,ay h2,ay h3,ay h4,ay ⟨h1,h2,h3,h4,h5⟩];rfl
       rw [ay h1,ay h2,ay h3,az h4,az (fun h=>h4 h.2.2.2.1)];rfl
     rw [ay h1,ay h2,az h3,az (p:=jq _) (fun h=>h3 h.2.2.1)];rfl
   rw [ay h1,az h2,az (p:=jq _) (fun h=>h2 h.2.1)];rfl
 rw [az h1,az (p:=jq _) (fun h=>h1 h.1)];rfl
structure hY (c:bX):Prop where
 len:(abk c.ce)<=200
 n0:0<=c.aU
 n1:c.aU<=1000000
 cv: ∀i,i<abk c.ce->jq (c.ce[i]!).2
 nr: ∀i,i<abk c.ce->0<=(c.ce[i]!).1/\(c.ce[i]!).1<c.aU
 up: ∀i j,i<j->j<abk c.ce->(c.ce[i]!).1<(c.ce[j]!).1
 nd: ∀i j,i<j->j<abk c.ce->(c.ce[i]!).2≠(c.ce[j]!).2
def Ek (l:List vY) (i:Nat):Int:=if i=0 then -1 else (l[i-1]!).1
def Tt (c:bX) (i:Nat):Prop:=jq (c.ce[i]!).2/\(∀j,j<i->(c.ce[j]!).2≠(c.ce[i]!).2)/\Ek c.ce i<(c.ce[i]!).1/\(c.ce[i]!).1<c.aU
theorem hY.iff {c:bX} (h1:(abk c.ce)<=200) (h2:0<=c.aU) (h3:c.aU<=1000000):hY c↔ ∀i,i<abk c.ce->Tt c i:=by
 constructor
 · intro ok i hi
   refine ⟨ok.cv i hi,fun j hj=>ok.nd j i hj hi,?_,(ok.nr i hi).2⟩;unfold Ek;split
   · have:=(ok.nr i hi).1;omega
   exact ok.up _ i (by omega) hi
 intro h
 have low: ∀i,i<abk c.ce->0<=(c.ce[i]!).1:=by
  intro i
  induction i with
  |zero=>
   intro hi;have:=(h 0 hi).2.2.1
   assumption
  |succ i ih=>
   intro hi;have h1:=(h _ hi).2.2.1;unfold Ek at h1
   grind
 have up: ∀i j,i<j->j<abk c.ce->(c.ce[i]!).1<(c.ce[j]!).1:=by
  intro i j
  induction j with
  |zero=>intro h;omega
  |succ j ih=>
   intro pX hj;have h1:=(h _ hj).2.2.1;unfold Ek at h1
   grind
 exact ⟨h1,h2,h3,fun i hi=>(h i hi).1,fun i hi=>⟨low i hi,(h i hi).2.2.2⟩,up,fun i j pX hj=>(h j hj).2.1 i pX⟩
theorem KP (l:List vY) (k:Nat) (a b:Int):sj [a,b] ((l.take k).map fun x=>[x.2.1,x.2.2])=abm:=by unfold sj;rw [List.all_eq_true];intro x hx;obtain ⟨y,hy,rfl⟩:=aa9.1 hx;rfl
theorem KQ (l:List vY) (k:Nat) (x:Int×Int):IF ((l.take k).map fun y=>[y.2.1,y.2.2]) [x.1,x.2]=abo (∃j,j<k/\j<abk l/\(l[j]!).2=x):=by
 unfold IF;rw [ab4,List.any_eq_true,decide_eq_true_iff];constructor
 · rintro ⟨y,hy,he⟩
   obtain ⟨z,hz,rfl⟩:=aa9.1 hy;obtain ⟨j,h1,h2,rfl⟩:=cE.1 hz
   grind
 rintro ⟨j,h1,h2,h3⟩
 refine ⟨[(l[j]!).2.1,(l[j]!).2.2],aa9.2 ⟨l[j]!,cE.2 ⟨j,h1,h2,rfl⟩,rfl⟩,?_⟩;rw [h3];simp
theorem zm (c:bX):uh c=abl (if hY c then 0 else 8):=by
 unfold uh;simp []
 by_cases h1:200<abk c.ce
 · rw [ay (by omega),Do (fun h=>by have:=h.len;omega)];rfl
 rw [az (by omega)]
 by_cases h2:c.aU<0
 · rw [ay h2,Do (fun h=>by have:=h.n0;omega)];rfl
 rw [az h2]
 by_cases h3:1000000<c.aU
 · rw [ay h3,Do (fun h=>by have:=h.n1;omega)];rfl
 rw [az h3];simp;have key:=dZ (body:=uU) (fun i=>(Ek c.ce i,c.ce,((abk c.ce):Int),(i:Int),c.aU,c.ce,(c.ce.take i).map fun x=>[x.2.1,x.2.2])) (abk c.ce) (fun i=> ¬Tt c i) (e:=0) (fun i hi=>by
  have e1:abo ((i:Int)<((abk c.ce):Int))=abm:=ay (by omega);have has:Qh ((c.ce.take i).map fun x=>[x.2.1,x.2.2]) [(c.ce[i]!).2.1,(c.ce[i]!).2.2]=abl (abo (∃j,j<i/\j<abk c.ce/\(c.ce[j]!).2=(c.ce[i]!).2)):=by unfold Qh;rw [KP,KQ];rfl
  have nx:(c.ce.take (i+1)).map (fun x=>[x.2.1,x.2.2])=((c.ce.take i).map fun x=>[x.2.1,x.2.2])++[[(c.ce[i]!).2.1,(c.ce[i]!).2.2]]:=by rw [dG hi,List.map_append];rfl
  have ln:Ek c.ce (i+1)=(c.ce[i]!).1:=by unfold Ek;rw [Do (by omega),show i+1-1=i by omega]
  unfold uU;simp (disch:=omega) only [e1,ar c.ce i hi,ai,Ej,has,aM];unfold Tt
  by_cases b1:jq (c.ce[i]!).2
  case neg=>rw [az b1];exact ⟨fun _=>rfl,fun h=>absurd (EQ.1 h).1 b1⟩
  rw [ay b1]
  by_cases b2: ∃j,j<i/\j<abk c.ce/\(c.ce[j]!).2=(c.ce[i]!).2
  · rw [ay b2]
    refine ⟨fun _=>rfl,fun h=>?_⟩;obtain ⟨j,j1,j2,j3⟩:=b2;exact absurd j3 ((EQ.1 h).2.1 j j1)
  rw [az b2]
  by_cases b3:(c.ce[i]!).1<=Ek c.ce i
  · rw [ay b3]
    exact ⟨fun _=>rfl,fun h=>absurd (EQ.1 h).2.2.1 (by omega)⟩
  rw [az b3]
  by_cases b4:c.aU<=(c.ce[i]!).1
  · rw [ay b4]
    exact ⟨fun _=>rfl,fun h=>absurd (EQ.1 h).2.2.2 (by omega)⟩
  rw [az b4];have ins:Qi ((c.ce.take i).map fun x=>[x.2.1,x.2.2]) [(c.ce[i]!).2.1,(c.ce[i]!).2.2]=abl (((c.ce.take i).map fun x=>[x.2.1,x.2.2])++[[(c.ce[i]!).2.1,(c.ce[i]!).2.2]]):=by unfold Qi V9;rw [KP,KQ,az b2];rfl
  grind) (by
  unfold uU;simp)
 have h0:Ek c.ce 0= -1:=rfl
 by_cases ok:hY c
 · simp_all [hY.iff]
 rw [Do ok]
 grind [hY.iff]
theorem Q9 (c:bX) (i:Nat) (hi:i<abk c.ce) (hl:(abk c.ce)<=200):
 ((∃j,j<i/\(c.ce[j]!).2=(c.ce[i]!).2)->aq iR ((i:Int),0,c.aU,c.ce,c.ce[i]!)=abl (.done 8))/\
 ((∀j,j<i-> ¬(c.ce[j]!).2=(c.ce[i]!).2)->aq iR ((i:Int),0,c.aU,c.ce,c.ce[i]!)=abl (.next (((i+1:Nat):Int),c.aU,c.ce))):=by
 refine dZ (fun j=>((i:Int),(j:Int),c.aU,c.ce,c.ce[i]!)) i (fun j=>(c.ce[j]!).2=(c.ce[i]!).2) (fun j hj=>?_) ?_
 · have e1:=ay (by omega)
   unfold iR;simp (disch:=omega) only [ar,aM]
   grind
 unfold iR
 have:abo ((i:Int)<(i:Int))=abn:=az (by omega);simp (disch:=omega) only [this,ww,aM]
theorem KR (c:bX):yr c=abl (if hY c then 0 else 8):=by
 unfold yr;simp []
 by_cases h1:200<abk c.ce
 · rw [ay (by omega),Do (fun h=>by have:=h.len;omega)];rfl
 rw [az (by omega)]
 by_cases h2:c.aU<0
 · rw [ay h2,Do (fun h=>by have:=h.n0;omega)];rfl
 rw [az h2]
 by_cases h3:1000000<c.aU
 · rw [ay h3,Do (fun h=>by have:=h.n1;omega)];rfl
 simp;have key:=dZ (body:=sA) (fun i=>((i:Int),c.aU,c.ce)) (abk c.ce) (fun i=> ¬(jq (c.ce[i]!).2/\0<=(c.ce[i]!).1/\(c.ce[i]!).1<c.aU/\(0<i->(c.ce[i-1]!).1<(c.ce[i]!).1)/\ ∀j,j<i-> ¬(c.ce[j]!).2=(c.ce[i]!).2)) (e:=0) (fun i hi=>by
  have e1:abo ((i:Int)<((abk c.ce):Int))=abm:=ay (by omega);have l1:=Q9 c i hi (by omega);unfold sA;simp only [aF,e1,ar c.ce i hi,ai,L3]
  by_cases b1:jq (c.ce[i]!).2
  case neg=>rw [az b1];exact ⟨fun _=>rfl,fun h=>absurd (EQ.1 h).1 b1⟩
  rw [ay b1]
  by_cases b2:(c.ce[i]!).1<0
  · rw [ay b2]
    exact ⟨fun _=>rfl,fun h=>absurd (EQ.1 h).2.1 (by omega)⟩
  rw [az b2]
  by_cases b3:c.aU<=(c.ce[i]!).1
  · rw [ay b3]
    exact ⟨fun _=>rfl,fun h=>absurd (EQ.1 h).2.2.1 (by omega)⟩
  rw [az b3];have go:(0<i->(c.ce[i-1]!).1<(c.ce[i]!).1)->(¬(jq (c.ce[i]!).2/\0<=(c.ce[i]!).1/\(c.ce[i]!).1<c.aU/\(0<i->(c.ce[i-1]!).1<(c.ce[i]!).1)/\ ∀j,j<i-> ¬(c.ce[j]!).2=(c.ce[i]!).2)->aq iR ((i:Int),0,c.aU,c.ce,c.ce[i]!)=abl (.done 8))/\
   (¬¬(jq (c.ce[i]!).2/\0<=(c.ce[i]!).1/\(c.ce[i]!).1<c.aU/\(0<i->(c.ce[i-1]!).1<(c.ce[i]!).1)/\ ∀j,j<i-> ¬(c.ce[j]!).2=(c.ce[i]!).2)->aq iR ((i:Int),0,c.aU,c.ce,c.ce[i]!)=abl (.next (((i+1:Nat):Int),c.aU,c.ce))):=by
   intro hp;constructor
   · intro h
     refine l1.1 (Classical.byContradiction fun hx=>h ⟨b1,by omega,by omega,hp,fun j hj he=>hx ⟨j,hj,he⟩⟩)
   intro h
   exact l1.2 (EQ.1 h).2.2.2.2
  by_cases b4:0<i
  · have f1:abo ((0:Int)<(i:Int))=abm:=ay (by omega)
    simp (disch:=omega) only [f1,u7 (by omega) b4,ar,ai]
    by_cases b5:(c.ce[i]!).1<=(c.ce[i-1]!).1
    · rw [ay b5]
      exact ⟨fun _=>rfl,fun h=>absurd ((EQ.1 h).2.2.2.1 b4) (by omega)⟩
    rw [az b5]
    exact go fun _=>by omega
  · have f1:abo ((0:Int)<(i:Int))=abn:=az (by omega)
    rw [f1];exact go fun h=>absurd h b4) (by
  unfold sA;have:abo (((abk c.ce):Int)<((abk c.ce):Int))=abn:=az (by omega);simp [])
 have same:hY c↔ ∀i,i<abk c.ce->(jq (c.ce[i]!).2/\0<=(c.ce[i]!).1/\(c.ce[i]!).1<c.aU/\(0<i->(c.ce[i-1]!).1<(c.ce[i]!).1)/\ ∀j,j<i-> ¬(c.ce[j]!).2=(c.ce[i]!).2):=by
  constructor
  · intro ok i hi
    exact ⟨ok.cv i hi,(ok.nr i hi).1,(ok.nr i hi).2,fun h=>ok.up (i-1) i (by omega) hi,fun j hj=>ok.nd j i hj hi⟩
  intro h
  rw [hY.iff (by omega) (by omega) (by omega)];intro i hi;obtain ⟨a1,a2,a3,a4,a5⟩:=h i hi;refine ⟨a1,a5,?_,a3⟩;unfold Ek;split
  · omega
  exact a4 (by omega)
 grind
def qR (l:List vY) (x:Int×Int):Prop:= ∃i,i<abk l/\(l[i]!).2=x
theorem KS (l:List vY) (x:Int×Int) (hl:(abk l)<=1000000):cL l x=abl (abo (qR l x)):=by
 unfold cL gN;have key:=pf (body:=dQ) (fun i=>(l,x.1,x.2,((abk l):Int),(i:Int))) (abk l) (fun i=>(l[i]!).2=x) (fun i=>(i:Int)) (e:= -1) (fun i hi=>by
  unfold dQ EX;simp (disch:=omega) only [ar l i hi,aM]
  grind) (by
  unfold dQ;simp)
 by_cases hx:qR l x
 · obtain ⟨k,h1,h2,h3⟩:=least hx
   have:=key.1 k h1 h2 h3;simp_all
 have:=key.2 fun i hi he=>hx ⟨i,hi,he⟩
 grind
theorem DI:eY=cL:=rfl
theorem OH (c:bX) (x:Int×Int) (hl:(abk c.ce)<=1000000):Hh c x=abl (abo (qR c.ce x)):=by
 have key:=dZ (body:=wM) (fun i=>((i:Int),c.aU,c.ce,x)) (abk c.ce) (fun i=>(c.ce[i]!).2=x) (r:=abm) (e:=abn) (fun i hi=>by
  have e1:=ay (by omega);unfold wM;simp (disch:=omega) only [ar c.ce i hi,aM]
  grind) (by
  unfold wM;simp)
 by_cases hx:qR c.ce x
 · rw [ay hx];exact key.1 hx
 rw [az hx];exact key.2 fun i hi he=>hx ⟨i,hi,he⟩
def vd (c:bX) (x:Int×Int):bX:=⟨c.aU+1,c.ce++[(c.aU,x)]⟩
def KU (c:bX):Prop:=abk c.ce=200\/c.aU=1000000
theorem Q' {c:bX} (ok:hY c) {x:Int×Int} (hx:jq x):F5 c x=abl (if qR c.ce x then (⟨0,[]⟩,0,14) else if KU c then (⟨0,[]⟩,0,18) else (vd c x,c.aU,0)):=by
 have:=ok.len;have:=ok.n0;have:=ok.n1;unfold F5;rw [zm,AC ok,Ej,ay hx,KS _ _ (by omega)];simp []
 by_cases h1:qR c.ce x
 · grind
 rw [az h1,Do h1];unfold KU
 by_cases h2:(abk c.ce)=200
 · grind
 rw [jm (by omega)]
 by_cases h3:c.aU=1000000
 · grind
 rw [jm h3,Do (by omega)];have e:aa .i64 (c.aU+1)=c.aU+1:=by rw [wi];omega
 simp (disch:=omega) only [cj,ai,bA (show (abk c.ce)+[(c.aU,x)].length<=1048576 by simp;omega),e];rfl
theorem xN {c:bX} {x:Int×Int} {i:Nat}:(vd c x).ce[i]! =if i<(abk c.ce) then c.ce[i]! else if i=(abk c.ce) then (c.aU,x) else default:=by
 show (c.ce++[(c.aU,x)])[i]! =_
 grind
theorem DJ {c:bX} {x:Int×Int}:(vd c x).ce.length=abk c.ce+1:=by show (c.ce++[(c.aU,x)]).length=_;simp
theorem Tu {c:bX} (ok:hY c) {x:Int×Int} (hx:jq x) (hn: ¬qR c.ce x) (hf: ¬KU c):hY (vd c x):=by
 have h1:=ok.len;have h2:=ok.n0;have h3:=ok.n1;unfold KU at hf;refine ⟨by rw [DJ];omega,by show 0<=c.aU+1;omega,by show c.aU+1<=1000000;omega,?_,?_,?_,?_⟩
 · intro i hi
   rw [DJ] at hi;rw [xN]
   by_cases h:i<abk c.ce
   · rw [AC h];exact ok.cv i h
   grind
 · intro i hi
   rw [DJ] at hi;rw [xN];show 0<=_/\_<c.aU+1
   by_cases h:i<abk c.ce
   · rw [AC h];have:=ok.nr i h;omega
   grind
 · intro i j pX hj
   rw [DJ] at hj;rw [xN,xN,AC (by omega)]
   by_cases h:j<abk c.ce
   · rw [AC h];exact ok.up i j pX h
   rw [Do h,AC (by omega)]
   exact (ok.nr i (by omega)).2
 intro i j pX hj
 rw [DJ] at hj;rw [xN,xN,AC (by omega)]
 by_cases h:j<abk c.ce
 · rw [AC h];exact ok.nd i j pX h
 rw [Do h,AC (by omega)]
 exact fun he=>hn ⟨i,by omega,he⟩
def s9 (c:bX) (k:Nat):bX:=⟨c.aU,c.ce.eraseIdx k⟩
theorem Ge {α:Type} {l:List α} {k:Nat} (hk:k<abk l):(l.eraseIdx k).length=abk l-1:=by
 grind
theorem KV {c:bX} (ok:hY c) {k:Nat} (hk:k<abk c.ce):hY (s9 c k):=by
 have h1:=ok.len;have len:(s9 c k).ce.length=abk c.ce-1:=Ge hk;have cell: ∀i,∃j,i<=j/\j<=i+1/\(i<abk c.ce-1->j<abk c.ce)/\(s9 c k).ce[i]! =c.ce[j]!/\(i<k->j=i)/\(k<=i->j=i+1):=by
  intro i
  by_cases h:i<k
  · exact ⟨i,by omega,by omega,by omega,by show (c.ce.eraseIdx k)[i]! =_;grind,fun _=>rfl,by omega⟩
  exact ⟨i+1,by omega,by omega,by omega,by show (c.ce.eraseIdx k)[i]! =_;grind,by omega,fun _=>rfl⟩
 refine ⟨by omega,ok.n0,ok.n1,?_,?_,?_,?_⟩
 · intro i hi
   obtain ⟨j,j1,j2,j3,j4,j5,j6⟩:=cell i;rw [j4];exact ok.cv j (j3 (by omega))
 · intro i hi
   obtain ⟨j,j1,j2,j3,j4,j5,j6⟩:=cell i;rw [j4];exact ok.nr j (j3 (by omega))
 · intro i i' pX hi
   obtain ⟨j,j1,j2,j3,j4,j5,j6⟩:=cell i;obtain ⟨m,m1,m2,m3,m4,m5,m6⟩:=cell i';rw [j4,m4];exact ok.up j m (by omega) (m3 (by omega))
 intro i i' pX hi
 obtain ⟨j,j1,j2,j3,j4,j5,j6⟩:=cell i;obtain ⟨m,m1,m2,m3,m4,m5,m6⟩:=cell i';rw [j4,m4];exact ok.nd j m (by omega) (m3 (by omega))
theorem KW {c:bX} (ok:hY c) {k:Nat} (hk:k<abk c.ce) {n:Int} (hn:(c.ce[k]!).1=n):yD c n=abl (s9 c k,(c.ce[k]!).2,0):=by have h1:=ok.len;unfold yD Hk;obtain ⟨L,d1,d2⟩:=CX c.ce k hk;rw [zm,AC ok,(s8 c.ce n (by omega) ok.up).1 k hk hn];simp (disch:=omega) only [ai,show ((0:Int) !=0)=abn from rfl,ww,If,cj,aM,d1,ar c.ce k hk,d2];rfl
def dO (l:List Pt) (id:Int):Prop:= ∃k,k<abk l/\(l[k]!).1=id
noncomputable def bm (l:List Pt) (id:Int):Pt:=if h:dO l id then l[h.choose]! else (-1,0,0)
theorem mA {l:List Pt} (hs:fo l) {k:Nat} (hk:k<abk l) {id:Int} (h:(l[k]!).1=id):bm l id=l[k]!:=by
 have hp:dO l id:=⟨k,hk,h⟩;unfold bm
 grind [nL]
theorem bT {l:List Pt} (ok:aT l) {id:Int} (h:dO l id):eZ (bm l id)/\(bm l id).1=id:=by obtain ⟨k,hk,he⟩:=h;rw [mA ok.2.2 hk he];exact ⟨ok.2.1 _ (aK hk),he⟩
theorem Hv {l:List Pt} {id:Int} (h: ¬dO l id):bm l id=(-1,0,0):=by unfold bm;rw [dif_neg h]
theorem pg {l:List Pt} (ok:aT l) (id:Int):lF ⟨l⟩ id=abl (bm l id):=by
 have h1:=ok.1;have bs:=s8 l id (by omega) (fun i j=>eO ok.2.2);unfold lF;rw [aal]
 by_cases h:dO l id
 · obtain ⟨k,hk,he⟩:=h
   rw [bs.1 k hk he];simp [ar l k hk,mA ok.2.2 hk he]
 obtain ⟨m,m1,m2,m3,e⟩:=bs.2 (fun k hk he=>h ⟨k,hk,he⟩)
 rw [e,Hv h];rfl
theorem zn {l:List Pt} (ok:aT l) {id:Int} (h:dO l id): ∃k,k<abk l/\iv ⟨l⟩ id=abl (k:Int)/\l[k]! =bm l id:=by have h1:=ok.1;obtain ⟨k,hk,he⟩:=h;exact ⟨k,hk,MX ok.2.2 (by omega) hk he,(mA ok.2.2 hk he).symm⟩
theorem OI {l:List Pt} (ok:aT l) {id:Int} (h: ¬dO l id):iv ⟨l⟩ id=abl (-1):=by have h1:=ok.1;exact ac7 (by omega) fun k hk he=>h ⟨k,hk,he⟩
def j7 (l:List Pt) (x:Int×Int):Prop:=dO l x.1/\dO l x.2
noncomputable def bV (l:List Pt) (x t:Int×Int):(Int×Int)×Bool:=jo (bm l x.2) (bm l x.1) t
theorem zo {l:List Pt} (ok:aT l) {x t:Int×Int} (hx:jq x) (ht:bu t) (h64:jb t):
 uq ⟨l⟩ x t=abl (if j7 l x then ((bV l x t).1,(bV l x t).2,0) else ((0,0),abn,8)):=by
 unfold uq;rw [pg ok,pg ok];simp [IL h64];have bad: ¬eZ (-1,0,0):=by unfold eZ;omega
 by_cases h1:dO l x.1
 · by_cases h2:dO l x.2
   · obtain ⟨p1,p2⟩:=bT ok h1
     obtain ⟨q1,q2⟩:=bT ok h2;rw [AC ⟨q1,p1,ht,by rw [p2,q2];exact fun h=>hx.2.2.2.2 h.symm⟩,AC ⟨h1,h2⟩];rfl
   rw [Hv h2,Do (fun h=>bad h.1),Do (fun h=>bad h.1),Do (fun h=>h2 h.2)]
 rw [Hv h1,Do (fun h=>bad h.2.1),Do (fun h=>bad h.2.1),Do (fun h=>h1 h.1)]
theorem L4 {l:List Pt} (ok:aT l) {x t:Int×Int} (h64:jb t) (hb:j7 l x):A0 ⟨l⟩ x t=abl (bV l x t):=by obtain ⟨h1,h2⟩:=hb;obtain ⟨j,j1,j2,j3⟩:=zn ok h1;obtain ⟨k,k1,k2,k3⟩:=zn ok h2;unfold A0;simp [j2,k2,ar l j j1,ar l k k1,j3,k3,Tf (bT ok h2).1 (bT ok h1).1 h64];rfl
theorem aam (c:bX) {l:List Pt} (ok:aT l) (hl:(abk c.ce)<=200):yu c ⟨l⟩=abl (abo (∀i,i<abk c.ce->j7 l (c.ce[i]!).2)):=by
 unfold yu;have key:=dZ (body:=sB) (fun i=>((i:Int),c.aU,c.ce,l)) (abk c.ce) (fun i=> ¬j7 l _) (e:=abm) (fun i hi=>by
  have e1:abo ((i:Int)<((abk c.ce):Int))=abm:=ay (by omega);unfold sB j7;simp (disch:=omega) only [aF,e1,v6,ar c.ce i hi,ai,aM]
  by_cases h1:dO l (c.ce[i]!).2.1
  · obtain ⟨k,k1,k2,_⟩:=zn ok h1
    rw [k2]
    by_cases h2:dO l (c.ce[i]!).2.2
    · obtain ⟨j,j1,j2,_⟩:=zn ok h2
      rw [j2];simp (disch:=omega) only [ai,az,ww];exact ⟨fun h=>absurd ⟨h1,h2⟩ h,fun _=>trivial⟩
    rw [OI ok h2]
    exact ⟨fun _=>rfl,fun h=>absurd (EQ.1 h).2 h2⟩
  · rw [OI ok h1]
    exact ⟨fun _=>rfl,fun h=>absurd (EQ.1 h).1 h1⟩) (by
  unfold sB;simp [])
 by_cases hx: ∀i,i<abk c.ce->j7 l (c.ce[i]!).2
 · rw [ay hx];exact key.2 fun i hi=>EQ.2 (hx i hi)
 grind
def bk (l:List Pt) (t:Int×Int) (H:List Ev):List vY->List vY->Prop
 | [],ds=>ds=[]
 |x::cs,ds=>((bV l x.2 t).2=abm-> ∃d EB,ds=d::EB/\d.1=x.1/\((bV l x.2 t).1.1,(bV l x.2 t).1.2,x.1,d.2)∈H/\bk l t H cs EB)/\((bV l x.2 t).2=abn->bk l t H cs ds)
structure aQ (c:aH):Prop where
 hZ:bu c.ii
 dw:jb c.ii
 eM:aT c.io.am
 uw:hY c.af
 oj:fP c.ae
 KX:(abk c.ae.aB)=200
 hd:(abk c.ae.bv)=abk c.jp
 known: ∀i,i<abk c.af.ce->j7 c.io.am (c.af.ce[i]!).2
 DK:bk c.io.am c.ii c.ae.bv c.af.ce c.jp
structure mY (c:aH):Prop where
 dw:jb c.ii
 ag:CU c.ae
 du:(abk c.jp)<=1000000
theorem aeO {a:aV} (ok:fP a) (w2:(abk a.aB)=200) (t:Int×Int) (n:Int) (h:Int×Int):
 (0<=h.1/\h.1<200/\0<=a.aB[h.1.toNat]!/\a.bv[(a.aB[h.1.toNat]!).toNat]! =(t.1,t.2,n,h))↔((t.1,t.2,n,h):Ev)∈a.bv:=by
 have wl:=ok.wl;constructor
 · rintro ⟨h1,h2,h3,h4⟩
   cases hb:a.aj.be[h.1.toNat]! with
   |false=>have:=ok.un h.1.toNat (by omega) hb;omega
   |true=>
    have:=ok.fwd h.1.toNat (by omega) hb
    grind
 intro hm
 obtain ⟨w,hw,he⟩:=aS.1 hm;obtain ⟨b1,b2,b3,b4,b5⟩:=ok.back hw
 grind
theorem aan {a:aV} (ok:fP a) {i:Nat} (hi:i<abk a.aj.aC) (h:0<=a.aB[i]!):a.aB[i]!<(abk a.bv):=by
 cases hb:a.aj.be[i]! with
 |false=>have:=ok.un i hi hb;omega
 |true=>exact (ok.fwd i hi hb).2.1
theorem w9 {α:Type} [Inhabited α] {l:List α} {i:Nat} (h:i<abk l):l.drop i=l[i]!::l.drop (i+1):=by simp_all
theorem Ra {c:aH} (hZ:bu c.ii) (dw:jb c.ii) (eM:aT c.io.am) (uw:hY c.af) (oj:fP c.ae) (w2:(abk c.ae.aB)=200):
 ∀(d i:Nat) (ds:List vY),abk c.af.ce-i<=d->i<=abk c.af.ce->abk ds<=1000000->
  aq df (ds,c.af.ce,((abk c.af.ce):Int),(i:Int),c.ii.1,c.ii.2,c.io.am,c.af.aU,c.af.ce,c.ae.aj.aC,c.ae.aj.be,c.ae.aj.bi,c.ae.bv,c.ae.aB,c.jp)=
   abl (.done (if (∀j,i<=j->j<abk c.af.ce->j7 c.io.am (c.af.ce[j]!).2)/\bk c.io.am c.ii c.ae.bv (c.af.ce.drop i) ds then 0 else 8)):=by
 have hl:=uw.len;have wl:=oj.wl;have fin: ∀(ds:List vY),aq df (ds,c.af.ce,((abk c.af.ce):Int),((abk c.af.ce):Int),c.ii.1,c.ii.2,c.io.am,c.af.aU,c.af.ce,c.ae.aj.aC,c.ae.aj.be,c.ae.aj.bi,c.ae.bv,c.ae.aB,c.jp)=abl (.done (if ds=[] then 0 else 8)):=by
  intro ds;refine au ?_;unfold df;have e1:abo (((abk c.af.ce):Int)<((abk c.af.ce):Int))=abn:=az (by omega);simp only [aF,e1,ww];cases ds with
  |nil=>rfl
  |cons d ds=>simp
 intro d
 induction d with
 |zero=>
  intro i ds hd hi hds;have:i=(abk c.af.ce):=by omega
  subst this;rw [fin ds,ab1];have:((∀j,abk c.af.ce<=j->j<abk c.af.ce->j7 c.io.am (c.af.ce[j]!).2)/\bk c.io.am c.ii c.ae.bv [] ds)↔ds=[]:=⟨fun h=>h.2,fun h=>⟨fun j h1 h2=>by omega,h⟩⟩
  grind
 |succ d ih=>
  intro i ds hd hi hds
  by_cases he:i=abk c.af.ce
  · grind
  have xk:i<(abk c.af.ce):=by omega
  have e1:abo ((i:Int)<((abk c.af.ce):Int))=abm:=ay (by omega);have hw:=zo eM (uw.cv i xk) hZ dw;have dr:=w9 xk;have all:(∀j,i<=j->j<abk c.af.ce->j7 c.io.am (c.af.ce[j]!).2)↔(j7 c.io.am (c.af.ce[i]!).2/\ ∀j,i+1<=j->j<abk c.af.ce->j7 c.io.am (c.af.ce[j]!).2):=by
   grind
  have sc:=aM (show i<1000000000 by omega)
  by_cases hb:j7 c.io.am (c.af.ce[i]!).2
  case neg=>rw [Do (fun h=>hb (all.1 h.1).1)];refine au ?_;unfold df;simp_all [v6,ar,ai,Do]
  rw [AC hb] at hw
  by_cases is:(bV c.io.am (c.af.ce[i]!).2 c.ii).2=abm
  case neg=>
   have is':(bV c.io.am (c.af.ce[i]!).2 c.ii).2=abn:=by simpa using is
   rw [aJ (y:=(ds,c.af.ce,((abk c.af.ce):Int),((i+1:Nat):Int),c.ii.1,c.ii.2,c.io.am,c.af.aU,c.af.ce,c.ae.aj.aC,c.ae.aj.be,c.ae.aj.bi,c.ae.bv,c.ae.aB,c.jp)) (by unfold df;simp_all [v6,ar,ai,ww,abb]),ih (i+1) ds (by omega) (by omega) hds];have same:((∀j,i<=j->j<abk c.af.ce->j7 c.io.am (c.af.ce[j]!).2)/\bk c.io.am c.ii c.ae.bv (c.af.ce.drop i) ds)↔((∀j,i+1<=j->j<abk c.af.ce->j7 c.io.am (c.af.ce[j]!).2)/\bk c.io.am c.ii c.ae.bv (c.af.ce.drop (i+1)) ds):=by
    rw [dr,all];constructor
    · rintro ⟨⟨_,h1⟩,h2⟩;exact ⟨h1,h2.2 is'⟩
    rintro ⟨h1,h2⟩;exact ⟨⟨hb,h1⟩,fun h=>absurd h is,fun _=>h2⟩
   simp only [same]
  have stop:(¬((∀j,i<=j->j<abk c.af.ce->j7 c.io.am (c.af.ce[j]!).2)/\bk c.io.am c.ii c.ae.bv (c.af.ce.drop i) ds))->df (ds,c.af.ce,((abk c.af.ce):Int),(i:Int),c.ii.1,c.ii.2,c.io.am,c.af.aU,c.af.ce,c.ae.aj.aC,c.ae.aj.be,c.ae.aj.bi,c.ae.bv,c.ae.aB,c.jp)=abl (.done (.done 8))->aq df (ds,c.af.ce,((abk c.af.ce):Int),(i:Int),c.ii.1,c.ii.2,c.io.am,c.af.aU,c.af.ce,c.ae.aj.aC,c.ae.aj.be,c.ae.aj.bi,c.ae.bv,c.ae.aB,c.jp)=
   abl (.done (if (∀j,i<=j->j<abk c.af.ce->j7 c.io.am (c.af.ce[j]!).2)/\bk c.io.am c.ii c.ae.bv (c.af.ce.drop i) ds then 0 else 8)):=by
   simp_all [Do,au]
  cases ds with
  |nil=>
   refine stop (fun h=>?_) ?_
   · rw [dr] at h
     obtain ⟨d,EB,h1,_⟩:=h.2.1 is;cases h1
   unfold df
   simp_all [v6,ar,ai,ww,If]
  |cons d0 ds=>
   have l0:((((d0::ds).length:Nat):Int)==0)=abn:=jm (by simp;omega);have g0:aD (d0::ds) 0=abl d0:=rfl;have DK: ∀P:Prop,(P↔d0.1=(c.af.ce[i]!).1/\(((bV c.io.am (c.af.ce[i]!).2 c.ii).1.1,(bV c.io.am (c.af.ce[i]!).2 c.ii).1.2,(c.af.ce[i]!).1,d0.2):Ev)∈c.ae.bv)-> ¬P-> ¬((∀j,i<=j->j<abk c.af.ce->j7 c.io.am (c.af.ce[j]!).2)/\bk c.io.am c.ii c.ae.bv (c.af.ce.drop i) (d0::ds)):=by
    intro P hP hn h;rw [dr] at h;obtain ⟨d,EB,h1,h2,h3,_⟩:=h.2.1 is
    grind
   by_cases b1:d0.1=(c.af.ce[i]!).1
   case neg=>refine stop (DK (d0.1=(c.af.ce[i]!).1/\_) ab3 (fun h=>b1 h.1)) ?_;unfold df;simp only [aF,e1,v6,ar c.af.ce i xk,ai,hw,is,show ((0:Int) !=0)=abn from rfl,ww,If,l0,g0,db b1]
   have ea:=aeO oj w2 (bV c.io.am (c.af.ce[i]!).2 c.ii).1 (c.af.ce[i]!).1 d0.2
   by_cases b2:d0.2.1<0
   · refine stop (DK (d0.1=(c.af.ce[i]!).1/\_) ab3 (fun h=>by have:=(ea.2 h.2).1;omega)) ?_
     unfold df;simp only [aF,e1,v6,ar c.af.ce i xk,ai,hw,is,show ((0:Int) !=0)=abn from rfl,ww,If,l0,g0,aY b1,ay b2]
   by_cases b3:200<=d0.2.1
   · refine stop (DK (d0.1=(c.af.ce[i]!).1/\_) ab3 (fun h=>by have:=(ea.2 h.2).2.1;omega)) ?_
     unfold df;simp only [aF,e1,v6,ar c.af.ce i xk,ai,hw,is,show ((0:Int) !=0)=abn from rfl,ww,If,l0,g0,aY b1,az b2,ay b3]
   have gw:=kN (l:=c.ae.aB) (i:=d0.2.1) (by omega) (by omega)
   by_cases b4:c.ae.aB[d0.2.1.toNat]!<0
   · refine stop (DK (d0.1=(c.af.ce[i]!).1/\_) ab3 (fun h=>by have:=(ea.2 h.2).2.2.1;omega)) ?_
     unfold df;simp only [aF,e1,v6,ar c.af.ce i xk,ai,hw,is,show ((0:Int) !=0)=abn from rfl,ww,If,l0,g0,aY b1,az b2,az b3,gw,ay b4]
   have gh:=kN (i:=c.ae.aB[d0.2.1.toNat]!) (by omega) (aan oj (by omega) (by omega));have sl:gW (d0::ds) 1 ((((d0::ds).length:Nat):Int))=abl ds:=by unfold gW;rw [AC ⟨by omega,by simp;omega,by omega⟩];simp
   have evq: ∀(e:Ev) (p:Int×Int) (n:Int) (h:Int×Int),((e.1==p.1)&&((e.2.1==p.2)&&((e.2.2.1==n)&&((e.2.2.2.1==h.1)&&(e.2.2.2.2==h.2)))))=abo (e=(p.1,p.2,n,h)):=by
    intro e p n h;rw [ab4,decide_eq_true_iff];simp only [Bool.and_eq_true,beq_iff_eq];constructor
    · rintro ⟨h1,h2,h3,h4,h5⟩
      exact aaE h1 (aaE h2 (aaE h3 (aaE h4 h5)))
    intro h;rw [h];exact ⟨rfl,rfl,rfl,rfl,rfl⟩
   have alM:=evq c.ae.bv[(c.ae.aB[d0.2.1.toNat]!).toNat]! (bV c.io.am (c.af.ce[i]!).2 c.ii).1 (c.af.ce[i]!).1 d0.2
   by_cases b5:c.ae.bv[(c.ae.aB[d0.2.1.toNat]!).toNat]! =((bV c.io.am (c.af.ce[i]!).2 c.ii).1.1,(bV c.io.am (c.af.ce[i]!).2 c.ii).1.2,(c.af.ce[i]!).1,d0.2)
   case neg=>refine stop (DK (d0.1=(c.af.ce[i]!).1/\_) ab3 (fun h=>b5 (ea.2 h.2).2.2.2)) ?_;unfold df;simp only [aF,e1,v6,ar c.af.ce i xk,ai,hw,is,show ((0:Int) !=0)=abn from rfl,ww,If,l0,g0,aY b1,az b2,az b3,gw,az b4,gh];rw [alM,az b5];rfl
   have ID:=ea.1 ⟨by omega,by omega,by omega,b5⟩;rw [aJ (by unfold df;simp only [aF,e1,v6,ar c.af.ce i xk,ai,hw,is,show ((0:Int) !=0)=abn from rfl,ww,If,l0,g0,aY b1,az b2,az b3,gw,az b4,gh,sl,sc];rw [alM,ay b5];rfl),ih (i+1) ds (by omega) (by omega) (by simp at hds;omega)];have same:((∀j,i<=j->j<abk c.af.ce->j7 c.io.am (c.af.ce[j]!).2)/\bk c.io.am c.ii c.ae.bv (c.af.ce.drop i) (d0::ds))↔((∀j,i+1<=j->j<abk c.af.ce->j7 c.io.am (c.af.ce[j]!).2)/\bk c.io.am c.ii c.ae.bv (c.af.ce.drop (i+1)) ds):=by
    rw [dr,all];constructor
    · rintro ⟨⟨_,h1⟩,h2⟩
      obtain ⟨d,EB,k1,k2,k3,k4⟩:=h2.1 is;injection k1 with k1 k5;subst k5;exact ⟨h1,k4⟩
    rintro ⟨h1,h2⟩
    exact ⟨⟨hb,h1⟩,fun _=>⟨d0,ds,rfl,b1,ID,h2⟩,fun h=>by rw [is] at h;cases h⟩
   simp only [same]
theorem aQ.iff {c:aH} (fit:mY c):aQ c↔bu c.ii/\aT c.io.am/\hY c.af/\fP c.ae/\abk c.ae.aB=200/\abk c.ae.bv=abk c.jp/\(∀i,i<abk c.af.ce->j7 c.io.am (c.af.ce[i]!).2)/\bk c.io.am c.ii c.ae.bv c.af.ce c.jp:=
 ⟨fun h=>⟨h.hZ,h.eM,h.uw,h.oj,h.KX,h.hd,h.known,h.DK⟩,fun ⟨h1,h2,h3,h4,h5,h6,h7,h8⟩=>⟨h1,fit.dw,h2,h3,h4,h5,h6,h7,h8⟩⟩
theorem aQ.fit {c:aH} (ok:aQ c):mY c:=⟨ok.dw,ok.oj.fit,by have:=ok.hd;have:=ok.oj.bd;omega⟩
theorem Rb {c:aH} {n0 n1 n2 n3:Int}:
 aq fT (4,0,c.ii.1,c.ii.2,c.io.am,c.af.aU,c.af.ce,c.ae.aj.aC,c.ae.aj.be,c.ae.aj.bi,c.ae.bv,c.ae.aB,c.jp,[n0,n1,n2,n3])=
  if n0=0/\n1=0/\n2=0/\n3=0 then aq fT (4,4,c.ii.1,c.ii.2,c.io.am,c.af.aU,c.af.ce,c.ae.aj.aC,c.ae.aj.be,c.ae.aj.bi,c.ae.bv,c.ae.aB,c.jp,[n0,n1,n2,n3]) else abl 8:=by
 have st: ∀(i:Nat) (n:Int),i<4->aD [n0,n1,n2,n3] (i:Int)=abl n->aq fT (4,(i:Int),c.ii.1,c.ii.2,c.io.am,c.af.aU,c.af.ce,c.ae.aj.aC,c.ae.aj.be,c.ae.aj.bi,c.ae.bv,c.ae.aB,c.jp,[n0,n1,n2,n3])=
  if n=0 then aq fT (4,((i+1:Nat):Int),c.ii.1,c.ii.2,c.io.am,c.af.aU,c.af.ce,c.ae.aj.aC,c.ae.aj.be,c.ae.aj.bi,c.ae.bv,c.ae.aB,c.jp,[n0,n1,n2,n3]) else abl 8:=by
  intro i n hi hg;have e1:abo ((i:Int)<4)=abm:=ay (by omega)
  by_cases h:n=0
  · rw [AC h]
    refine aJ ?_;unfold fT;simp (disch:=omega) only [e1,v6,hg,ai,aY h,ww,aM]
  rw [Do h]
  refine au ?_;unfold fT;simp [e1,hg,db h]
 have s0:=st 0 n0 (by omega) rfl;have s1:=st 1 n1 (by omega) rfl;have s2:=st 2 n2 (by omega) rfl;have s3:=st 3 n3 (by omega) rfl
 grind
theorem ia {c:aH} (fit:mY c):fj c=abl (if aQ c then 0 else 8):=by
 unfold fj;rw [bQ fit.dw,fq,zm,lh _ fit.ag];simp only [ai];have h4:Int.ofNat [if bu c.ii then (0:Int) else 8,xM c.io.am,if hY c.af then (0:Int) else 8,if fP c.ae then (0:Int) else 8].length=4:=rfl;rw [h4,Rb];simp [gF];have f1:=aQ.iff fit
 by_cases ok:bu c.ii/\aT c.io.am/\hY c.af/\fP c.ae
 case neg=>rw [Do ok,Do (fun h=>ok ⟨h.hZ,h.eM,h.uw,h.oj⟩)]
 obtain ⟨hZ,eM,uw,oj⟩:=ok;rw [AC ⟨hZ,eM,uw,oj⟩]
 by_cases w2:(abk c.ae.aB)=200
 case neg=>rw [Do (c:=aQ c) (fun h=>w2 h.KX)];refine au ?_;unfold fT;simp (disch:=omega) only [aF,az,ww,db,v6]
 by_cases hd:(abk c.ae.bv)=abk c.jp
 case neg=>rw [Do (c:=aQ c) (fun h=>hd h.hd)];refine au ?_;unfold fT;simp (disch:=omega) only [aF,az,ww,aY,db,v6]
 have run:=Ra hZ fit.dw eM uw oj w2 (abk c.af.ce) 0 c.jp (by omega) (by omega) fit.du;have same:((∀j,0<=j->j<abk c.af.ce->j7 c.io.am (c.af.ce[j]!).2)/\bk c.io.am c.ii c.ae.bv c.af.ce c.jp)↔aQ c:=by
  rw [f1];constructor
  · rintro ⟨h1,h2⟩;exact ⟨hZ,eM,uw,oj,w2,hd,fun i hi=>h1 i (by omega) hi,h2⟩
  rintro ⟨_,_,_,_,_,_,h1,h2⟩;exact ⟨fun j _ hj=>h1 j hj,h2⟩
 refine au ?_;unfold fT
 grind
theorem ac9 {a:aV} (ok:fP a) (h:Int×Int):A2 a h=abl (if zZ a.aj h then (a.bv[(a.aB[h.1.toNat]!).toNat]!,0) else ((0,0,0,0,0),6)):=by
 unfold A2;rw [CV a ok.fit,AC ok,UX ok.so]
 by_cases lv:zZ a.aj h
 · obtain ⟨i,hi,hw,hh⟩:=ok.live lv
   have:=lv.1;have:=lv.2.1;have:=ok.wl;rw [ay lv,AC lv,kN lv.1 (by omega),hw];simp [ar a.bv i hi,]
 grind
theorem Rc {c:aH} (dw:jb c.ii) (eM:aT c.io.am) (uw:hY c.af) (oj:fP c.ae) (w2:(abk c.ae.aB)=200) (hdu:(abk c.jp)<=1000000)
 (kn: ∀i,i<abk c.af.ce->j7 c.io.am (c.af.ce[i]!).2):
 ∀(d i k:Nat),abk c.af.ce-i<=d->i<=abk c.af.ce->k<=abk c.jp->
  aq dV ((k:Int),(i:Int),c.ii.1,c.ii.2,c.io.am,c.af.aU,c.af.ce,c.ae.aj.aC,c.ae.aj.be,c.ae.aj.bi,c.ae.bv,c.ae.aB,c.jp)=
   abl (if bk c.io.am c.ii c.ae.bv (c.af.ce.drop i) (c.jp.drop k) then 0 else 8):=by
 have hl:=uw.len;have wl:=oj.wl;have fin: ∀k:Nat,k<=abk c.jp->aq dV ((k:Int),((abk c.af.ce):Int),c.ii.1,c.ii.2,c.io.am,c.af.aU,c.af.ce,c.ae.aj.aC,c.ae.aj.be,c.ae.aj.bi,c.ae.bv,c.ae.aB,c.jp)=abl (if bk c.io.am c.ii c.ae.bv (c.af.ce.drop (abk c.af.ce)) (c.jp.drop k) then 0 else 8):=by
  intro k hk;rw [ab1];refine au ?_;unfold dV;have e1:abo (((abk c.af.ce):Int)<((abk c.af.ce):Int))=abn:=az (by omega);simp only [aF,e1,ww];have:bk c.io.am c.ii c.ae.bv [] (c.jp.drop k)↔k=(abk c.jp):=by show c.jp.drop k=[]↔_;rw [WF];omega
  grind
 intro d
 induction d with
 |zero=>
  grind
 |succ d ih=>
  intro i k hd hi hk
  by_cases he:i=abk c.af.ce
  · subst he;exact fin k hk
  have xk:i<(abk c.af.ce):=by omega
  have e1:abo ((i:Int)<((abk c.af.ce):Int))=abm:=ay (by omega);have hw:=L4 eM dw (kn i xk);have dr:=w9 xk;have sc:=aM (show i<1000000000 by omega);have sk:=aM (show k<1000000000 by omega)
  by_cases is:(bV c.io.am (c.af.ce[i]!).2 c.ii).2=abm
  case neg=>
   have is':(bV c.io.am (c.af.ce[i]!).2 c.ii).2=abn:=by simpa using is
   rw [aJ (y:=((k:Int),((i+1:Nat):Int),c.ii.1,c.ii.2,c.io.am,c.af.aU,c.af.ce,c.ae.aj.aC,c.ae.aj.be,c.ae.aj.bi,c.ae.bv,c.ae.aB,c.jp)) (by unfold dV;simp only [aF,e1,v6,ar c.af.ce i xk,ai,hw,sc,is',abb]),ih (i+1) k (by omega) (by omega) hk];have same:bk c.io.am c.ii c.ae.bv (c.af.ce.drop i) (c.jp.drop k)↔bk c.io.am c.ii c.ae.bv (c.af.ce.drop (i+1)) (c.jp.drop k):=by rw [dr];exact ⟨fun h=>h.2 is',fun h=>⟨fun h'=>absurd h' is,fun _=>h⟩⟩
   simp only [same]
  have stop:(¬bk c.io.am c.ii c.ae.bv (c.af.ce.drop i) (c.jp.drop k))->dV ((k:Int),(i:Int),c.ii.1,c.ii.2,c.io.am,c.af.aU,c.af.ce,c.ae.aj.aC,c.ae.aj.be,c.ae.aj.bi,c.ae.bv,c.ae.aB,c.jp)=abl (.done 8)->
   aq dV ((k:Int),(i:Int),c.ii.1,c.ii.2,c.io.am,c.af.aU,c.af.ce,c.ae.aj.aC,c.ae.aj.be,c.ae.aj.bi,c.ae.bv,c.ae.aB,c.jp)=abl (if bk c.io.am c.ii c.ae.bv (c.af.ce.drop i) (c.jp.drop k) then 0 else 8):=by
   intro h1 h2;rw [Do h1];exact au h2
  by_cases XX:k=abk c.jp
  · refine stop (fun h=>?_) ?_
    · rw [dr] at h
      obtain ⟨d,EB,h1,_⟩:=h.1 is;rw [XX,ab1] at h1;cases h1
    unfold dV
    simp (disch:=omega) only [aF,e1,v6,ar c.af.ce i xk,ai,hw,is,If,ww,ay]
  have LM:k<(abk c.jp):=by omega
  have dk:=w9 LM;have e2:abo (((abk c.jp):Int)<=(k:Int))=abn:=az (by omega);have DK: ¬((c.jp[k]!).1=(c.af.ce[i]!).1/\(((bV c.io.am (c.af.ce[i]!).2 c.ii).1.1,(bV c.io.am (c.af.ce[i]!).2 c.ii).1.2,(c.af.ce[i]!).1,(c.jp[k]!).2):Ev)∈c.ae.bv)-> ¬bk c.io.am c.ii c.ae.bv (c.af.ce.drop i) (c.jp.drop k):=by intro hn h;rw [dr,dk] at h;obtain ⟨d,EB,h1,h2,h3,_⟩:=h.1 is;injection h1 with h1 _;subst h1;exact hn ⟨h2,h3⟩
  by_cases b1:(c.jp[k]!).1=(c.af.ce[i]!).1
  case neg=>refine stop (DK (fun h=>b1 h.1)) ?_;unfold dV;simp only [aF,e1,v6,ar c.af.ce i xk,ai,hw,is,If,ww,e2,ar c.jp k LM,db b1]
  have fi:=ac9 oj (c.jp[k]!).2;have ea:=aeO oj w2 (bV c.io.am (c.af.ce[i]!).2 c.ii).1 (c.af.ce[i]!).1 (c.jp[k]!).2;have fi':=fi
  by_cases lv:zZ c.ae.aj (c.jp[k]!).2
  case neg=>
   rw [Do lv] at fi';refine stop (DK (fun h=>lv ?_)) ?_
   · obtain ⟨w,hw',mg⟩:=aS.1 h.2
     have:=(oj.handle hw').1
     rwa [mg] at this
   unfold dV
   simp only [aF,e1,v6,ar c.af.ce i xk,ai,hw,is,If,ww,e2,ar c.jp k LM,aY b1,fi',show ((6:Int) !=0)=abm from rfl]
  rw [AC lv] at fi';obtain ⟨w,hw1,hw2,hw3⟩:=oj.live lv;rw [hw2,IR] at fi';have q1:(0<=(c.jp[k]!).2.1/\(c.jp[k]!).2.1<200/\0<=c.ae.aB[(c.jp[k]!).2.1.toNat]!):=⟨lv.1,by have:=lv.2.1;omega,by rw [hw2];omega⟩
  by_cases b2:(c.ae.bv[w]!).2.2.1=(c.af.ce[i]!).1
  case neg=>
   refine stop (DK (fun h=>b2 ?_)) ?_
   · have:=(ea.2 h.2).2.2.2
     rw [hw2,IR] at this;rw [this]
   unfold dV
   simp only [aF,e1,v6,ar c.af.ce i xk,ai,hw,is,If,ww,e2,ar c.jp k LM,aY b1,fi',show ((0:Int) !=0)=abn from rfl,db b2]
  have teq:((c.ae.bv[w]!).1==(bV c.io.am (c.af.ce[i]!).2 c.ii).1.1&&(c.ae.bv[w]!).2.1==(bV c.io.am (c.af.ce[i]!).2 c.ii).1.2)=abo (((c.ae.bv[w]!).1,(c.ae.bv[w]!).2.1)=(bV c.io.am (c.af.ce[i]!).2 c.ii).1):=by
   rw [ab4,decide_eq_true_iff];simp;constructor
   · rintro ⟨h1,h2⟩;exact aaE h1 h2
   intro h;rw [<- h];exact ⟨rfl,rfl⟩
  by_cases b3:((c.ae.bv[w]!).1,(c.ae.bv[w]!).2.1)=(bV c.io.am (c.af.ce[i]!).2 c.ii).1
  case neg=>
   refine stop (DK (fun h=>b3 ?_)) ?_
   · have:=(ea.2 h.2).2.2.2
     rw [hw2,IR] at this;rw [this]
   unfold dV
   simp only [aF,e1,v6,ar c.af.ce i xk,ai,hw,is,If,ww,e2,ar c.jp k LM,aY b1,fi',show ((0:Int) !=0)=abn from rfl,aY b2];rw [teq,az b3];rfl
  have ID:=ea.1 ⟨q1.1,q1.2.1,q1.2.2,by rw [hw2,IR];have t1:=congrArg Prod.fst b3;have t2:=congrArg Prod.snd b3;exact aaE t1 (aaE t2 (aaE b2 hw3))⟩;rw [aJ (by unfold dV;simp only [aF,e1,v6,ar c.af.ce i xk,ai,hw,is,If,ww,e2,ar c.jp k LM,aY b1,fi',show ((0:Int) !=0)=abn from rfl,aY b2,sc,sk];rw [teq,ay b3];rfl),ih (i+1) (k+1) (by omega) (by omega) (by omega)];have same:bk c.io.am c.ii c.ae.bv (c.af.ce.drop i) (c.jp.drop k)↔bk c.io.am c.ii c.ae.bv (c.af.ce.drop (i+1)) (c.jp.drop (k+1)):=by
   rw [dr,dk];constructor
   · intro h2
     obtain ⟨d,EB,k1,k2,k3,k4⟩:=h2.1 is;injection k1 with k1 k5;subst k5;exact k4
   intro h2
   exact ⟨fun _=>⟨_,_,rfl,b1,ID,h2⟩,fun h=>by rw [is] at h;cases h⟩
  simp only [same]
theorem tc {c:aH} (fit:mY c):oR c=abl (if aQ c then 0 else 8):=by
 unfold oR;rw [s6 fit.dw,KG,KR,CV _ fit.ag];simp
 by_cases hZ:bu c.ii
 case neg=>rw [Do hZ,Do (c:=aQ c) (fun h=>hZ h.hZ)];rfl
 rw [AC hZ]
 by_cases eM:aT c.io.am
 case neg=>rw [db (fun h=>eM (gF.1 h)),Do (c:=aQ c) (fun h=>eM h.eM)];rfl
 rw [aY (gF.2 eM)]
 by_cases uw:hY c.af
 case neg=>rw [Do uw,Do (c:=aQ c) (fun h=>uw h.uw)];rfl
 rw [AC uw];have kn:=aam c.af eM uw.len;simp only [kn,]
 by_cases known: ∀i,i<abk c.af.ce->j7 c.io.am (c.af.ce[i]!).2
 case neg=>rw [az known,Do (c:=aQ c) (fun h=>known h.known)];rfl
 rw [ay known]
 by_cases oj:fP c.ae
 case neg=>rw [Do oj,Do (fun h=>oj h.oj)];rfl
 rw [AC oj];simp []
 by_cases w2:(abk c.ae.aB)=200
 case neg=>rw [db (by omega),Do (fun h=>w2 h.KX)];rfl
 rw [aY (by omega)]
 by_cases hd:(abk c.ae.bv)=abk c.jp
 case neg=>rw [db (by omega),Do (fun h=>hd h.hd)];rfl
 have run:=Rc fit.dw eM uw oj w2 fit.du known (abk c.af.ce) 0 0 (by omega) (by omega) (by omega);simp_all [aQ.iff,]
section
variable {l : List Pt} {t : Int × Int}
theorem bk.lq {H:List Ev} {x:vY} {cs ds:List vY} (h:(bV l x.2 t).2=abm):bk l t H (x::cs) ds↔ ∃d EB,ds=d::EB/\d.1=x.1/\(((bV l x.2 t).1.1,(bV l x.2 t).1.2,x.1,d.2):Ev)∈H/\bk l t H cs EB:=
 ⟨fun k=>k.1 h,fun k=>⟨fun _=>k,fun k'=>(by grind)⟩⟩
theorem bk.kO {H:List Ev} {x:vY} {cs ds:List vY} (h:(bV l x.2 t).2=abn):bk l t H (x::cs) ds↔bk l t H cs ds:=
 ⟨fun k=>k.2 h,fun k=>⟨fun k'=>(by grind),fun _=>k⟩⟩
theorem bk.mono {H H':List Ev}: ∀{cs ds:List vY},(∀x∈cs,∀e:Ev,e.num=x.1->e∈H->e∈H')->bk l t H cs ds->bk l t H' cs ds
 | [],_,_,h=>h
 |x::cs,ds,hm,h=>by
  have Fx: ∀y∈cs,∀e:Ev,e.num=y.1->e∈H->e∈H':=fun y hy=>hm y (by simp [hy])
  cases hx:(bV l x.2 t).2 with
  |true=>rw [bk.lq hx] at h ⊢;obtain ⟨d,EB,h1,h2,h3,h4⟩:=h;exact ⟨d,EB,h1,h2,hm x (by simp) _ rfl h3,bk.mono Fx h4⟩
  |false=>rw [bk.kO hx] at h ⊢;exact bk.mono Fx h
theorem bk.jp {H:List Ev}: ∀{cs ds:List vY},bk l t H cs ds-> ∀d∈ds,∃x∈cs,d.1=x.1/\(bV l x.2 t).2=abm/\(((bV l x.2 t).1.1,(bV l x.2 t).1.2,x.1,d.2):Ev)∈H
 | [],ds,h,d,hd=>by
  have:ds=[]:=h
  grind
 |x::cs,ds,h,d,hd=>by
  cases hx:(bV l x.2 t).2 with
  |true=>
   rw [bk.lq hx] at h;obtain ⟨e,EB,h1,h2,h3,h4⟩:=h;subst h1;rcases abc.1 hd with rfl|hd
   · grind
   obtain ⟨y,hy,k⟩:=bk.jp h4 d hd
   grind
  |false=>
   rw [bk.kO hx] at h;obtain ⟨y,hy,k⟩:=bk.jp h d hd
   grind
theorem bk.has {H:List Ev}: ∀{cs ds:List vY},bk l t H cs ds-> ∀x∈cs,(bV l x.2 t).2=abm-> ∃d∈ds,d.1=x.1/\(((bV l x.2 t).1.1,(bV l x.2 t).1.2,x.1,d.2):Ev)∈H
 | [],_,_,x,hx,_=>by cases hx
 |y::cs,ds,h,x,hx,hf=>by
  cases hy:(bV l y.2 t).2 with
  |true=>
   rw [bk.lq hy] at h;obtain ⟨e,EB,h1,h2,h3,h4⟩:=h;rcases abc.1 hx with rfl|hx
   · grind
   obtain ⟨d,hd,k⟩:=bk.has h4 x hx hf
   grind
  |false=>
   rw [bk.kO hy] at h;rcases abc.1 hx with rfl|hx
   · grind
   exact bk.has h x hx hf
def Up (cs:List vY):Prop:=cs.Pairwise fun x y=>x.1<y.1
theorem yL {cs:List vY}:Up cs↔ ∀i j,i<j->j<abk cs->(cs[i]!).1<(cs[j]!).1:=by
 unfold Up
 grind [List.pairwise_iff_getElem]
theorem bk.up {H:List Ev}: ∀{cs ds:List vY},bk l t H cs ds->Up cs->Up ds
 | [],ds,h,_=>by
  have:ds=[]:=h
  grind
 |x::cs,ds,h,hu=>by
  have HR:=abe.1 hu;cases hx:(bV l x.2 t).2 with
  |true=>
   rw [bk.lq hx] at h;obtain ⟨e,EB,h1,h2,h3,h4⟩:=h;subst h1;refine abe.2 ⟨fun d hd=>?_,bk.up h4 HR.2⟩
   grind [bk.jp]
  |false=>rw [bk.kO hx] at h;exact bk.up h HR.2
theorem bk.snoc {H:List Ev}: ∀{cs ds:List vY} {x:vY},bk l t H cs ds->((bV l x.2 t).2=abn->bk l t H (cs++[x]) ds)/\
 (∀d:vY,(bV l x.2 t).2=abm->d.1=x.1->(((bV l x.2 t).1.1,(bV l x.2 t).1.2,x.1,d.2):Ev)∈H->bk l t H (cs++[x]) (ds++[d]))
 | [],ds,x,h=>by
  have:ds=[]:=h
  grind [bk.kO,bk.lq]
 |y::cs,ds,x,h=>by
  cases hy:(bV l y.2 t).2 with
  |true=>
   rw [bk.lq hy] at h;obtain ⟨e,EB,h1,h2,h3,h4⟩:=h;have ih:=bk.snoc (x:=x) h4
   grind [bk.lq]
  |false=>
   rw [bk.kO hy] at h;have ih:=bk.snoc (x:=x) h
   grind [bk.kO]
theorem bk.erase {H:List Ev}: ∀{cs ds:List vY} {i:Nat},bk l t H cs ds->i<abk cs->((bV l (cs[i]!).2 t).2=abn->bk l t H (cs.eraseIdx i) ds)/\
 ((bV l (cs[i]!).2 t).2=abm-> ∃k,k<abk ds/\(ds[k]!).1=(cs[i]!).1/\(((bV l (cs[i]!).2 t).1.1,(bV l (cs[i]!).2 t).1.2,(cs[i]!).1,(ds[k]!).2):Ev)∈H/\bk l t H (cs.eraseIdx i) (ds.eraseIdx k))
 | [],_,i,_,hi=>by cases hi
 |y::cs,ds,0,h,_=>by refine ⟨fun hy=>(bk.kO hy).1 h,fun hy=>?_⟩;obtain ⟨e,EB,h1,h2,h3,h4⟩:=(bk.lq hy).1 h;subst h1;exact ⟨0,by simp,h2,h3,h4⟩
 |y::cs,ds,i+1,h,hi=>by
  have xk:i<(abk cs):=by simpa using hi
  cases hy:(bV l y.2 t).2 with
  |true=>obtain ⟨e,EB,h1,h2,h3,h4⟩:=(bk.lq hy).1 h;subst h1;have ih:=bk.erase h4 xk;refine ⟨fun hx=>(bk.lq hy).2 ⟨e,EB,rfl,h2,h3,ih.1 hx⟩,fun hx=>?_⟩;obtain ⟨k,k1,k2,k3,k4⟩:=ih.2 hx;exact ⟨k+1,by simp;omega,k2,k3,(bk.lq hy).2 ⟨e,EB.eraseIdx k,rfl,h2,h3,k4⟩⟩
  |false=>
   have h:=(bk.kO hy).1 h;have ih:=bk.erase h xk
   grind [bk.kO]
end
theorem Ij {H:List Ev} {ns:List Int} (hd:ns.Nodup) (hl:(abk H)<=abk ns) (he: ∀n∈ns,∃e∈H,Ev.num e=n): ∀e∈H,Ev.num e∈ns:=by
 have pos: ∀n,n∈ns-> ∃w,w<abk H/\Ev.num H[w]! =n:=fun n hn=>by obtain ⟨e,he,h2⟩:=he n hn;obtain ⟨w,hw,rfl⟩:=aS.1 he;exact ⟨w,hw,h2⟩
 let f:=fun n=>if h: ∃w,w<abk H/\Ev.num H[w]! =n then h.choose else 0
 have hf: ∀n∈ns,f n<abk H/\Ev.num H[f n]! =n:=fun n hn=>by have h:=pos n hn;show (if h: ∃w,w<abk H/\Ev.num H[w]! =n then h.choose else 0)<_/\Ev.num H[(if h: ∃w,w<abk H/\Ev.num H[w]! =n then h.choose else 0)]! =n;rw [dif_pos h];exact h.choose_spec
 have full:=Ie (l:=ns.map f) (DG hd fun x hx y hy h=>by
  have h1:=(hf x hx).2;have h2:=(hf y hy).2;rw [h] at h1;omega) (fun x hx=>by
  obtain ⟨n,hn,rfl⟩:=aa9.1 hx;exact (hf n hn).1) (by rw [abg];exact hl)
 intro e hm;obtain ⟨w,hw,rfl⟩:=aS.1 hm
 grind
theorem Re {cs:List vY} (h:Up cs):(cs.map fun x=>x.1).Nodup:=by
 refine DG ?_ ?_
 · unfold Up at h
   exact h.imp fun Po he=>by grind
 intro x hx y hy he
 obtain ⟨i,hi,rfl⟩:=aS.1 hx;obtain ⟨j,hj,rfl⟩:=aS.1 hy;rcases aaF i j with h1|h1|h1
 · have:=yL.1 h i j h1 hj;omega
 · rw [h1]
 have:=yL.1 h j i h1 hi;omega
theorem aQ.xO {c:aH} (ok:aQ c):Up c.af.ce:=yL.2 ok.uw.up
theorem aQ.OJ {c:aH} (ok:aQ c):Up c.jp:=ok.DK.up ok.xO
theorem aQ.DS {c:aH} (ok:aQ c): ∀e∈c.ae.bv,∃d∈c.jp,d.1=Ev.num e:=by
 have:=Ij (H:=c.ae.bv) (Re ok.OJ) (by rw [abg,ok.hd];exact PP _) (fun n hn=>by obtain ⟨d,hd,rfl⟩:=aa9.1 hn;obtain ⟨x,hx,h1,h2,h3⟩:=ok.DK.jp d hd;exact ⟨_,h3,h1.symm⟩)
 grind
end Go.Proofs.YthljiplggdanpaaGreat
