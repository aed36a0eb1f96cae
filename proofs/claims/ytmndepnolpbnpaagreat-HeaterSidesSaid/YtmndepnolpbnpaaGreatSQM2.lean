/- Plain laws (2). -/
import Derived.Test.YtmndepnolpbnpaaGreatSQM1
open Classical renaming not_not->pm,not_forall->v4,not_imp->wn
open Bool renaming not_true->pp,eq_iff_iff->PP,not_false->aag,true->ab2,false->ab3
open Nat renaming le_refl->rc,lt_trichotomy->ww,sub_self->AC
open List renaming mem_map->ut,length_set->Do,length_append->EQ,pairwise_cons->If,length_take->M2,drop_length->NE,length_map->UV,length->ab0
open Prod renaming ext->v6,fst->aaj,snd->aau
open Int renaming toNat_natCast->IR,lt_irrefl->aah
open Iff renaming rfl->aa7
open Option renaming some->ab1
open Decidable renaming decide->ab4
namespace Go.Proofs.YtmndepnolpbnpaaGreat
open Go.Vm Classical
theorem EG (a:aJ) (fit:Cb a) (so:gi a.af) (wl:(ab0 a.ay)=ab0 a.af.aC):
 ax ie (a.ay,((ab0 a.ay):Int),0,a.af.aC,a.af.be,a.af.bi,a.bv,a.ay)=ab1 (if (∀i,i<ab0 a.af.aC->K0 a i)/\(∀k,k<ab0 a.bv->CJ a.bv k) then 0 else 8):=by
 have hu:=so.ul;have hn:=so.n2;have hh:=fit.hp;have Jz:=EF a.bv a.af.aC a.af.bi a.ay a.af.be fit.hp fit.abo;have key:=dD (body:=ie) (fun i=>(a.ay,((ab0 a.ay):Int),(i:Int),a.af.aC,a.af.be,a.af.bi,a.bv,a.ay)) (ab0 a.ay) (fun i=> ¬K0 a i) (r:=8) (e:=if (∀k,k<ab0 a.bv->CJ a.bv k) then 0 else 8) (fun i hi=>by
  have e1:ab4 ((i:Int)<((ab0 a.ay):Int))=ab2:=aH (by omega);unfold ie;simp only [aB,e1,ls,ar a.ay i hi,ar a.af.be i (by omega),ar a.af.aC i (by omega),au,aV (show i<1000000000 by omega)];unfold K0;generalize a.ay[i]! =w at*;cases hb:a.af.be[i]! with
  |false=>
   simp only [aag,ls]
   by_cases hw:w= -1
   · rw [dv hw]
     exact ⟨fun h=>absurd ⟨fun h=>(by cases h),fun _=>hw⟩ h,fun _=>rfl⟩
   rw [fH hw]
   exact ⟨fun _=>rfl,fun h=>absurd ((pm.1 h).2 trivial) hw⟩
  |true=>
   simp only [pp,lw]
   by_cases b1:w<0
   · rw [aH b1]
     exact ⟨fun _=>rfl,fun h=>absurd ((pm.1 h).1 trivial).1 (by omega)⟩
   by_cases b2:((ab0 a.bv):Int)<=w
   · rw [aD b1,aH b2]
     exact ⟨fun _=>rfl,fun h=>absurd ((pm.1 h).1 trivial).2.1 (by omega)⟩
   rw [aD b1,aD b2];simp only [lw,jB (l:=a.bv) (i:=w) (by omega) (by omega),au]
   by_cases b3:(a.bv[w.toNat]!).2.2.2.1=i
   · by_cases b4:(a.bv[w.toNat]!).2.2.2.2=a.af.aC[i]!
     · rw [fe b3,fe b4]
       exact ⟨fun h=>absurd ⟨fun _=>⟨by omega,by omega,b3,b4⟩,fun h=>(by cases h)⟩ h,fun _=>rfl⟩
     rw [fe b3,ef b4]
     exact ⟨fun _=>rfl,fun h=>absurd ((pm.1 h).1 trivial).2.2.2 b4⟩
   rw [ef b3]
   exact ⟨fun _=>rfl,fun h=>absurd ((pm.1 h).1 trivial).2.2.1 b3⟩) (by
  unfold ie;have:ab4 (((ab0 a.ay):Int)<((ab0 a.ay):Int))=ab3:=aD (by omega);simp only [aB,this,lw]
  by_cases hx: ∀k,k<ab0 a.bv->CJ a.bv k
  · rw [ol hx];exact Jz.1 hx
  rw [pi hx];exact Jz.2 hx)
 by_cases hw: ∀i,i<ab0 a.af.aC->K0 a i
 · refine (key.2 fun i hi=>pm.2 (hw i (by omega))).trans ?_
   by_cases hx: ∀k,k<ab0 a.bv->CJ a.bv k
   · rw [ol hx,ol ⟨hw,hx⟩]
   rw [pi hx,pi (fun h=>hx h.2)]
 rw [pi (fun h=>hw h.1)]
 obtain ⟨i,h⟩:=v4.1 hw;obtain ⟨hi,hx⟩:=wn.1 h;exact key.1 ⟨i,by omega,hx⟩
theorem nu (a:aJ) (fit:Cb a):f' a=ab1 (if iA a then 0 else 8):=by
 have hh:=fit.hp;unfold f';rw [vB _ fit.fr];simp only [aB]
 by_cases so:gi a.af
 case neg=>rw [pi so,pi (fun h=>so h.so)];rfl
 have hu:=so.ul;have hn:=so.n2;have hf:=so.fl;rw [ol so];simp only [au,show ((0:Int) !=0)=ab3 from rfl,lw]
 by_cases wl:(ab0 a.ay)=ab0 a.af.aC
 case neg=>rw [fH (by omega),pi (fun h=>wl h.wl)];rfl
 rw [dv (by omega)];have e:aa .i64 (((ab0 a.af.be):Int) - ((ab0 a.af.bi):Int))=((ab0 a.af.aC-(ab0 a.af.bi):Nat):Int):=by rw [wi];omega
 rw [e]
 by_cases hl:(ab0 a.bv)+ab0 a.af.bi=ab0 a.af.aC
 case neg=>rw [fH (by omega),pi (fun h=>hl h.hl)];rfl
 rw [dv (by omega)];simp only [lw];rw [EG a fit so wl]
 by_cases ok:iA a
 · rw [ol ok,ol ok.to]
 rw [pi ok,pi]
 intro h;exact ok (iA.of fit so wl hl h.1 h.2)
theorem abp {s:aO} (so:gi s) {n:Nat} {H:List Ev} {W:List Int} (E:Ev->Prop) (hn:n<=ab0 H) (wl:(ab0 W)=ab0 s.aC) (hl:n+ab0 s.bi=ab0 s.aC)
 (ix: ∀w,w<n->0<=(H[w]!).ix/\(H[w]!).ix<ab0 W/\W[(H[w]!).n]! =(w:Int)) (mem: ∀e,(∃w,w<n/\H[w]! =e)↔E e) (ord: ∀k,0<k->k<n-> ¬less H[k]! H[(k-1) / 2]!)
 (ue: ∀i,i<ab0 s.aC->s.be[i]! =ab2-> ∃e:Ev,E e/\e.ix=i/\e.2.2.2.2=s.aC[i]!) (un: ∀i,i<ab0 s.aC->s.be[i]! =ab3->W[i]! = -1)
 (ev: ∀e,E e->tV e) (Is: ∀e f:Ev,E e->E f->e.num=f.num->e.ix=f.ix):iA ⟨s,H.take n,W⟩:=by
 have len:(H.take n).length=n:=by rw [M2];omega
 have cell: ∀w,w<n->(H.take n)[w]! =H[w]!:=fun w hw=>uL hw
 refine ⟨so,wl,by show (H.take n).length+_=_;rw [len];exact hl,?_,un,?_,?_,?_⟩
 · intro i hi hu
   dsimp only at hi hu ⊢;rw [len];obtain ⟨e,he,e1,e2⟩:=ue i hi hu;obtain ⟨w,hw,rfl⟩:=(mem e).2 he;obtain ⟨a1,a2,a3⟩:=ix w hw;have hn':(H[w]!).n=i:=by show ((H[w]!).ix).toNat=i;omega
   rw [hn'] at a3;rw [a3,IR,cell w hw];exact ⟨by omega,by omega,e1,e2⟩
 · intro w hw
   dsimp only at hw ⊢;rw [len] at hw;rw [cell w hw];exact ev _ ((mem _).1 ⟨w,hw,rfl⟩)
 · intro v w hv hw
   dsimp only at hw ⊢;rw [len] at hw;rw [cell v (by omega),cell w hw];intro hc;have:=Is _ _ ((mem _).1 ⟨v,by omega,rfl⟩) ((mem _).1 ⟨w,hw,rfl⟩) hc;obtain ⟨a1,a2,a3⟩:=ix v (by omega);obtain ⟨b1,b2,b3⟩:=ix w hw;have hn':(H[v]!).n=(H[w]!).n:=by show ((H[v]!).ix).toNat=((H[w]!).ix).toNat;rw [this]
   rw [hn'] at a3;omega
 intro k k0 hk
 dsimp only at hk ⊢;rw [len] at hk;rw [cell k hk,cell _ (by omega)];exact ord k k0 hk
theorem CK {s:aO} (so:gi s) {n:Nat} {x:Ev} {M:Ev->Prop} {K:Nat->Prop} {H H1:List Ev} {W W1:List Int} (st:Am n x M K H W H1 W1) (hn:n<=ab0 H) (wl:(ab0 W)=ab0 s.aC) (hl:n+ab0 s.bi=ab0 s.aC)
 (ue: ∀i,i<ab0 s.aC->s.be[i]! =ab2-> ∃e:Ev,(e=x\/M e)/\e.ix=i/\e.2.2.2.2=s.aC[i]!) (un: ∀i,i<ab0 s.aC->s.be[i]! =ab3->K i/\W[i]! = -1)
 (ev: ∀e,(e=x\/M e)->tV e) (Is: ∀e f:Ev,(e=x\/M e)->(f=x\/M f)->e.num=f.num->e.ix=f.ix):iA ⟨s,H1.take n,W1⟩:=by
 refine abp so (fun e=>e=x\/M e) (by rw [st.hl];exact hn) (by rw [st.wl];exact wl) hl (by rw [st.wl];exact st.ix) st.mem st.ord ue ?_ ev Is;intro i hi hu;rw [st.out i (un i hi hu).1];exact (un i hi hu).2
theorem iA.bd {a:aJ} (ok:iA a):(ab0 a.bv)<=200/\ab0 a.ay<=200:=by have:=ok.hl;have:=ok.wl;have:=ok.so.n2;omega
theorem iA.cells {a:aJ} (ok:iA a):vE (ab0 a.bv) a.bv a.ay:=by have:=ok.bd;refine ⟨rc _,by omega,fun w hw=>?_⟩;obtain ⟨b1,b2,b3,b4,b5⟩:=ok.back hw;exact ⟨ok.ev w hw,b1,by rw [ok.wl];exact b2⟩
theorem iA.RK {a:aJ} (ok:iA a) {i:Nat} (hi:i<ab0 a.af.aC) (hu:a.af.be[i]! =ab2): ∃w,w<ab0 a.bv/\Ev.ix a.bv[w]! =i/\(a.bv[w]!).2.2.2.2=a.af.aC[i]!:=by obtain ⟨f1,f2,f3,f4⟩:=ok.fwd i hi hu;exact ⟨(a.ay[i]!).toNat,by omega,f3,f4⟩
theorem iA.S3 {a:aJ} (ok:iA a) {i:Nat} (hu:a.af.be[i]! =ab3) {w:Nat} (hw:w<ab0 a.bv):Ev.n a.bv[w]!≠i:=by intro h;have:=(ok.back hw).2.2.1;rw [h,hu] at this;cases this
theorem iA.Is {a:aJ} (ok:iA a) {v w:Nat} (hv:v<ab0 a.bv) (hw:w<ab0 a.bv) (h:Ev.num a.bv[v]! =Ev.num a.bv[w]!):v=w:=by
 rcases ww v w with h1|h1|h1
 · exact absurd h (ok.nd v w h1 hw)
 · exact h1
 exact absurd h.symm (ok.nd w v h1 hv)
theorem eF {α:Type} [Inhabited α] {l:List α} {k:Nat} {v:α} (h:l[k]! =v):l.set k v=l:=by
 by_cases hk:k<ab0 l
 · apply m9 (by rw [Do])
   intro i hi;rw [bn];split
   · rename_i e;rw [e.1];exact h.symm
   rfl
 exact List.set_eq_of_length_le (by omega)
theorem vF {a:aJ} (ok:iA a):lV a=ab1 a:=by have bd:=ok.bd;unfold lV;simp only [vC ok.so,au,bg (show (ab0 a.bv)<=1048576 by omega),bg (show (ab0 a.ay)<=1048576 by omega)]
theorem DB (H:List Ev) (n:Int) (hl:(ab0 H)<=1000000):bS H n=ab1 (ab4 (∃w,w<ab0 H/\(H[w]!).2.2.1=n)):=by
 unfold bS cW;have key:=ke (body:=bR) (fun i=>(H,n,((ab0 H):Int),(i:Int))) (ab0 H) (fun i=>(H[i]!).2.2.1=n) (fun i=>(i:Int)) (e:= -1) (fun i hi=>by
  have e1:ab4 ((i:Int)<((ab0 H):Int))=ab2:=aH (by omega);unfold bR pV;simp only [e1,ls,ar H i hi,au,aV (show i<1000000000 by omega)];constructor
  · intro h;rw [fe h];rfl
  · intro h;rw [ef h];rfl) (by
  unfold bR;have:ab4 (((ab0 H):Int)<((ab0 H):Int))=ab3:=aD (by omega);simp only [this,lw])
 rw [aB]
 by_cases hx: ∃w,w<ab0 H/\(H[w]!).2.2.1=n
 · obtain ⟨k,h1,h2,h3⟩:=least hx
   have:=key.1 k h1 h2 h3;rw [show ((0:Nat):Int)=0 from rfl] at this;rw [this,aH hx];simp only [au,aH (show (0:Int)<=(k:Int) by omega)]
 have:=key.2 fun i hi he=>hx ⟨i,hi,he⟩
 rw [show ((0:Nat):Int)=0 from rfl] at this;rw [this,aD hx];rfl
noncomputable def cu (a:aJ) (t:Int×Int) (n:Int):Ev:=(t.1,t.2,n,iH a.af)
noncomputable def ju (a:aJ) (t:Int×Int) (n:Int):aJ:=
 ⟨eM a.af,(gj (ab0 a.bv+1) (cu a t n) (ab0 a.bv) (a.bv++[cu a t n]) a.ay).1,(gj (ab0 a.bv+1) (cu a t n) (ab0 a.bv) (a.bv++[cu a t n]) a.ay).2⟩
section
variable {a : aJ} (ok : iA a) (op : tU a.af) {t : Int × Int} (ht : bT t) (h64 : nX t) {n : Int} (n0 : 0 <= n) (n1 : n <= 1000000)
include ok op
theorem xT:Ev.ix (cu a t n)=(bY a.af:Int)/\bY a.af<ab0 a.af.aC/\a.af.be[bY a.af]! =ab3/\ab0 a.af.bi=(eM a.af).bi.length+1:=by
 obtain ⟨h1,h2,h3⟩:=uP ok.so op.1;refine ⟨rfl,h1,?_,?_⟩
 · have:=ok.so.uf (bY a.af) h1
   cases h:a.af.be[bY a.af]! with
   |false=>rfl
   |true=>exact absurd h3 (this.1 h)
 show _=(a.af.bi.take (ab0 a.af.bi-1)).length+1
 have:=op.1;rw [M2];omega
theorem DC:zb (ab0 a.bv+1) (cu a t n) (fun e=>e∈a.bv) (a.bv++[cu a t n]) a.ay (ab0 a.bv):=by
 obtain ⟨h1,h2,h3,h4⟩:=xT (t:=t) (n:=n) ok op;have cell: ∀w,w<ab0 a.bv->(a.bv++[cu a t n])[w]! =a.bv[w]!:=fun w hw=>eB hw
 refine ⟨by omega,by simp,fun w hw YQ=>?_,by rw [h1];omega,by rw [h1,ok.wl];omega,fun e=>?_⟩
 · have Yr:w<(ab0 a.bv):=by omega
   rw [cell w Yr];obtain ⟨c1,c2,c3,c4,c5⟩:=ok.back Yr;refine ⟨c1,by rw [ok.wl];exact c2,c5,fun h=>?_⟩;rw [h1] at h;have:Ev.n a.bv[w]! =bY a.af:=by show (Ev.ix a.bv[w]!).toNat=_;omega
   exact ok.S3 h3 Yr this
 constructor
 · rintro ⟨w,hw,YQ,rfl⟩
   rw [cell w (by omega)];exact bU (by omega)
 intro h
 obtain ⟨w,hw,rfl⟩:=bQ.1 h;exact ⟨w,by omega,by omega,cell w hw⟩
theorem GA (ht:bT t):Ord (ab0 a.bv+1) (a.bv++[cu a t n]) (ab0 a.bv):=by
 have _:=op;have cell: ∀w,w<ab0 a.bv->(a.bv++[cu a t n])[w]! =a.bv[w]!:=fun w hw=>eB hw
 refine ⟨fun w hw=>?_,fun k k0 hk k1 k2=>?_,fun i0 k k0 hk hp=>by omega⟩
 · by_cases h:w<ab0 a.bv
   · rw [cell w h];exact (ok.ev w h).den
   have:w=(ab0 a.bv):=by omega
   subst this;rw [eL (rc _),AC];exact ht.1
 rw [cell k (by omega),cell _ (by omega)]
 exact ok.ord k k0 (by omega)
theorem rW (ht:bT t):Am (ab0 a.bv+1) (cu a t n) (fun e=>e∈a.bv) (fun k=>k≠Ev.n (cu a t n)/\ ∀w,w<ab0 a.bv+1->w≠ab0 a.bv->Ev.n (a.bv++[cu a t n])[w]!≠k) (a.bv++[cu a t n]) a.ay (ju a t n).bv (ju a t n).ay:=
 Gy (x:=cu a t n) ht.1 (DC ok op) (GA ok op ht)
theorem Cc (ht:bT t):(ju a t n).bv.length=ab0 a.bv+1:=by have:=(rW (n:=n) ok op ht).hl;rw [this];simp
theorem NP (ht:bT t) (e:Ev):e∈(ju a t n).bv↔(e=cu a t n\/e∈a.bv):=by have st:=rW (n:=n) ok op ht;rw [bQ,Cc ok op ht];exact st.mem e
theorem EH (ht:bT t) (h64:nX t) (n0:0<=n) (n1:n<=1000000):tV (cu a t n):=by have _:=ok;have _:=op;exact ⟨ht,h64,n0,n1⟩
theorem RM (ht:bT t) (h64:nX t) (n0:0<=n) (n1:n<=1000000) (nn: ∀e∈a.bv,Ev.num e≠n):iA (ju a t n):=by
 have st:=rW (n:=n) ok op ht;have len:=Cc (n:=n) ok op ht;obtain ⟨h1,h2,h3,h4⟩:=xT (t:=t) (n:=n) ok op;have hu:=ok.so.ul;have ul:(eM a.af).aC.length=(ab0 a.af.aC):=Do;have key:=CK (NL ok.so op) st (by simp) (by rw [ul];exact ok.wl) (by rw [ul];have:=ok.hl;omega) (fun j hj yd=>by
  rw [ul] at hj;change (a.af.be.set (bY a.af) ab2)[j]! =ab2 at yd;rw [bn] at yd;show∃e:Ev,_/\_/\_=(a.af.aC.set (bY a.af) (a.af.aC[bY a.af]!+1))[j]!;rw [bn]
  by_cases e:j=bY a.af
  · rw [ol ⟨e,h2⟩]
    exact ⟨cu a t n,.inl rfl,by rw [h1,e],rfl⟩
  · rw [pi (fun k=>e k.1)]
    rw [pi (fun k=>e k.1)] at yd;obtain ⟨w,hw,e1,e2⟩:=ok.RK hj yd;exact ⟨a.bv[w]!,.inr (bU hw),e1,e2⟩) (fun j hj yd=>by
  rw [ul] at hj;change (a.af.be.set (bY a.af) ab2)[j]! =ab3 at yd;rw [bn] at yd
  by_cases e:j=bY a.af
  · rw [ol ⟨e,by omega⟩] at yd;cases yd
  · rw [pi (fun k=>e k.1)] at yd
    refine ⟨⟨?_,fun w hw YQ=>?_⟩,ok.un j hj yd⟩
    · show j≠(Ev.ix (cu a t n)).toNat
      omega
    rw [eB (by omega)]
    exact ok.S3 yd (by omega)) (by
  rintro e (rfl|h)
  · exact EH ok op ht h64 n0 n1
  · obtain ⟨w,hw,rfl⟩:=bQ.1 h
    exact ok.ev w hw) (by
  rintro e f (rfl|he) (rfl|hf) hn
  · rfl
  · exact absurd hn.symm (nn f hf)
  · exact absurd hn (nn e he)
  obtain ⟨v,hv,rfl⟩:=bQ.1 he
  obtain ⟨w,hw,rfl⟩:=bQ.1 hf;rw [ok.Is hv hw hn])
 have:(ju a t n).bv.take (ab0 a.bv+1)=(ju a t n).bv:=List.take_of_length_le (by rw [len];exact rc _);show iA ⟨eM a.af,(ju a t n).bv,(ju a t n).ay⟩;rw [<- this];exact key
theorem Cf (ht:bT t) (h64:nX t) (n0:0<=n) (n1:n<=1000000):vE (ab0 a.bv+1) (a.bv++[cu a t n]) a.ay:=by
 have bd:=ok.bd;obtain ⟨h1,h2,h3,h4⟩:=xT (t:=t) (n:=n) ok op;refine ⟨by simp,by simp;omega,fun w hw=>?_⟩
 by_cases h:w<ab0 a.bv
 · rw [eB h];exact ok.cells.ev w h
 have:w=(ab0 a.bv):=by omega
 subst this;rw [eL (rc _),AC];exact ⟨EH ok op ht h64 n0 n1,by show 0<=Ev.ix (cu a t n);omega,by show Ev.ix (cu a t n)<_;rw [ok.wl];omega⟩
theorem zc (fit:Cb a) (ht:bT t) (h64:nX t) (n0:0<=n) (n1:n<=1000000) (nn: ∀e∈a.bv,Ev.num e≠n):g9 a t n=ab1 (ju a t n,iH a.af,0):=by
 have bd:=ok.bd;obtain ⟨h1,h2,h3,h4⟩:=xT (t:=t) (n:=n) ok op;have hn: ¬ ∃w,w<ab0 a.bv/\(a.bv[w]!).2.2.1=n:=by rintro ⟨w,hw,e⟩;exact nn _ (bU hw) e
 unfold g9;rw [nu a fit,ol ok,dU h64,ol ht,DB _ _ (by omega),aD hn,xS ok.so,ol op];have se:=Ir (u:=(eM a.af).aC) (us:=(eM a.af).be) (fr:=(eM a.af).bi) (EH ok op ht h64 n0 n1) (show 0<=Ev.ix (cu a t n) by omega) (Cf ok op ht h64 n0 n1) (by simp) (show (ab0 a.bv)<ab0 a.bv+1 by omega) (show Ev.ix (cu a t n)<(ab0 a.ay) by rw [ok.wl];omega);have e1:aa .i64 (((a.bv++[cu a t n]).length:Int) -1)=((ab0 a.bv):Int):=by rw [wi,EQ];simp;omega
 have ap:aX a.bv [(t.1,t.2,n,iH a.af)]=ab1 (a.bv++[cu a t n]):=fa (by simp;omega);have se':dX ((eM a.af).aC,(eM a.af).be,(eM a.af).bi,((ab0 a.bv):Int),t.1,t.2,n,(iH a.af).1,(iH a.af).2,a.bv++[cu a t n],a.ay)=ab1 (gj (ab0 a.bv+1) (cu a t n) (ab0 a.bv) (a.bv++[cu a t n]) a.ay):=se;simp only [au,gt_iff_lt,aah,if_false,show ((0:Int) !=0)=ab3 from rfl,lw,aD (show¬n<0 by omega),aD (show¬1000000<n by omega),bg (show (ab0 a.bv)<=1048576 by omega),bg (show (ab0 a.ay)<=1048576 by omega),ap,aB,e1,se'];rfl
theorem z5 (ht:bT t) (h64:nX t) (n0:0<=n) (n1:n<=1000000):dt a t n=ab1 (ju a t n,iH a.af):=by
 have bd:=ok.bd;obtain ⟨h1,h2,h3,h4⟩:=xT (t:=t) (n:=n) ok op;unfold dt;rw [vF ok];have e1:aa .i64 (((a.bv++[cu a t n]).length:Int) -1)=((ab0 a.bv):Int):=by rw [wi,EQ];simp;omega
 have ap:aX a.bv [(t.1,t.2,n,iH a.af)]=ab1 (a.bv++[cu a t n]):=fa (by simp;omega);have hx:=EH (n:=n) ok op ht h64 n0 n1;have last:gj (ab0 a.bv+1) (cu a t n) (ab0 a.bv) (a.bv++[cu a t n]) a.ay=_:=Gz (x:=cu a t n) ht.1 (DC ok op) (GA ok op ht) (fun k k0 hk hp=>by omega);have hs:(a.bv++[cu a t n]).set (ab0 a.bv) (cu a t n)=a.bv++[cu a t n]:=eF (by rw [eL (rc _),AC];rfl);have ws:bA a.ay (iH a.af).1 ((ab0 a.bv):Int)=a.ay.set (Ev.n (cu a t n)) ((ab0 a.bv):Int):=rfl
 have u1:oG ((eM a.af).aC,(eM a.af).be,(eM a.af).bi,((ab0 a.bv):Int),a.bv++[cu a t n],a.ay.set (Ev.n (cu a t n)) ((ab0 a.bv):Int))=ab1 (((wQ (cu a t n) (ab0 a.bv) (a.bv++[cu a t n]) a.ay).1:Int),(wQ (cu a t n) (ab0 a.bv) (a.bv++[cu a t n]) a.ay).2.1.set (wQ (cu a t n) (ab0 a.bv) (a.bv++[cu a t n]) a.ay).1 (cu a t n),(wQ (cu a t n) (ab0 a.bv) (a.bv++[cu a t n]) a.ay).2.2.set (Ev.n (cu a t n)) ((wQ (cu a t n) (ab0 a.bv) (a.bv++[cu a t n]) a.ay).1:Int)):=by
  unfold oG;have:=NO (c0:=((eM a.af).aC,(eM a.af).be,(eM a.af).bi,((ab0 a.bv):Int),a.bv++[cu a t n],a.ay.set (Ev.n (cu a t n)) ((ab0 a.bv):Int))) (u:=(eM a.af).aC) (us:=(eM a.af).be) (fr:=(eM a.af).bi) hx (show 0<=Ev.ix (cu a t n) by omega) (ab0 a.bv) (a.bv++[cu a t n]) a.ay (Cf ok op ht h64 n0 n1) (by omega) (by simp) (by rw [ok.wl];omega) rfl Do;rw [hs] at this;exact this
 have g1:aA a.ay (iH a.af).1=ab1 a.ay[bY a.af]!:=ar a.ay (bY a.af) (by rw [ok.wl];exact h2);simp only [au,B5 ok.so op,ap,g1,aB,e1,ws,u1];unfold ju;rw [last]
end
theorem zd {a:aJ} (ok:iA a) (op: ¬tU a.af) (fit:Cb a) {t:Int×Int} (ht:bT t) (h64:nX t) {n:Int} (n0:0<=n) (n1:n<=1000000) (nn: ∀e∈a.bv,Ev.num e≠n):g9 a t n=ab1 (⟨⟨[],[],[]⟩,[],[]⟩,(0,0),18):=by
 have bd:=ok.bd;have hn: ¬ ∃w,w<ab0 a.bv/\(a.bv[w]!).2.2.1=n:=by rintro ⟨w,hw,e⟩;exact nn _ (bU hw) e
 unfold g9;rw [nu a fit,ol ok,dU h64,ol ht,DB _ _ (by omega),aD hn,xS ok.so,pi op];simp only [au,gt_iff_lt,aah,if_false,show ((0:Int) !=0)=ab3 from rfl,lw,aD (show¬n<0 by omega),aD (show¬1000000<n by omega),show ((18:Int) !=0)=ab2 from rfl,ls]
section
variable {a : aJ} (ok : iA a) {i : Nat} (hi : i < (ab0 a.bv))
include ok hi
end
abbrev yg:=Int×Int×Int
theorem iA.fit {a:aJ} (ok:iA a):Cb a:=by have bd:=ok.bd;have:=ok.so.fl;have:=ok.so.n2;exact ⟨by omega,by omega,by omega,fun w hw=>(ok.ev w hw).2.1⟩
theorem JD (l:List yg) (id:Int) (hl:(ab0 l)<=1000000) (hs: ∀i j,i<j->j<ab0 l->(l[i]!).1<(l[j]!).1):
 (∀k,k<ab0 l->(l[k]!).1=id->aM l id ()=ab1 ((k:Int),ab2))/\
 ((∀k,k<ab0 l->(l[k]!).1≠id)-> ∃m,m<=ab0 l/\(∀i,i<m->(l[i]!).1<id)/\(∀i,m<=i->i<ab0 l->id<(l[i]!).1)/\aM l id ()=ab1 ((m:Int),ab3)):=by
 obtain ⟨m,m1,m2,m3⟩:=Gx (fun i=>(l[i]!).1) id (ab0 l) hs;have run:aM l id ()=ax aI (l,id,((ab0 l):Int),(m:Int),(m:Int)):=by
  unfold aM;refine y9 (body:=aI) (fun lo hi=>(l,id,((ab0 l):Int),(lo:Int),(hi:Int))) (ab0 l) m (fun i=>(l[i]!).1<id) (fun lo hi h1 h2=>?_) m2 (fun i h1 h2 h3=>by have:=m3 i h1 h2;omega) (ab0 l) 0 (ab0 l) (by omega) (by omega) m1 (rc _);have e1:ab4 ((lo:Int)<(hi:Int))=ab2:=aH (by omega);have hh:=RF (a:=lo) (b:=hi) (by omega) (by omega);unfold aI mT;simp only [e1,ls,hh,ar l ((lo+hi) / 2) (by omega),gW,au,aV (show (lo+hi) / 2<1000000000 by omega)];constructor
  · intro h
    have:ab4 (gG (l[(lo+hi) / 2]!).1 id<0)=ab2:=by rcases dV (l[(lo+hi) / 2]!).1 id with ⟨a,e⟩|⟨a,e⟩|⟨a,e⟩<;>rw [e]<;>first|rfl|omega
    rw [this];rfl
  intro h
  have:ab4 (gG (l[(lo+hi) / 2]!).1 id<0)=ab3:=by rcases dV (l[(lo+hi) / 2]!).1 id with ⟨a,e⟩|⟨a,e⟩|⟨a,e⟩<;>rw [e]<;>first|rfl|omega
  rw [this];rfl
 have fin:ax aI (l,id,((ab0 l):Int),(m:Int),(m:Int))=if m<ab0 l/\(l[m]!).1=id then ab1 ((m:Int),ab2) else ab1 ((m:Int),ab3):=by
  have e1:ab4 ((m:Int)<(m:Int))=ab3:=aD (by omega)
  by_cases hm:m<ab0 l
  · have e2:ab4 ((m:Int)<((ab0 l):Int))=ab2:=aH (by omega)
    have body:aI (l,id,((ab0 l):Int),(m:Int),(m:Int))=ab1 (.done ((m:Int),gG (l[m]!).1 id==0)):=by unfold aI mT;simp only [e1,e2,ls,lw,ar l m hm,gW,au]
    rw [aF body];rcases dV (l[m]!).1 id with ⟨a,e⟩|⟨a,e⟩|⟨a,e⟩
    · rw [e,pi (fun h=>by omega)];rfl
    · rw [e,ol ⟨hm,a⟩];rfl
    rw [e,pi (fun h=>by omega)];rfl
  have e2:ab4 ((m:Int)<((ab0 l):Int))=ab3:=aD (by omega)
  have body:aI (l,id,((ab0 l):Int),(m:Int),(m:Int))=ab1 (.done ((m:Int),ab3)):=by unfold aI;simp only [e1,e2,lw]
  rw [aF body,pi (fun h=>hm h.1)]
 rw [run,fin];constructor
 · intro k hk he
   have hkm:k=m:=by
    rcases ww k m with h|h|h
    · have:=m2 k h;omega
    · exact h
    have h1:=m3 m (rc _) (by omega)
    have h2:=hs m k h hk;omega
   subst hkm;rw [ol ⟨hk,he⟩]
 intro h
 refine ⟨m,m1,m2,fun i h1 h2=>?_,?_⟩
 · have:=m3 i h1 h2
   have:=h i h2;omega
 rw [pi (fun k=>h m k.1 k.2)]
theorem NQ:bX=aM:=rfl
theorem RN:cb=aM:=rfl
def cZ (x:Int×Int):Prop:=0<=x.1/\x.1<=65535/\0<=x.2/\x.2<=65535/\x.1≠x.2
theorem vG (x:Int×Int):oz x=ab1 (ab4 (cZ x)):=by
 obtain ⟨a,b⟩:=x;unfold oz;dsimp only
 by_cases h1:0<=a
 · by_cases h3:0<=b
   · have e1:ab4 (0<=if b<a then b else a)=ab2:=aH (by split<;>omega)
     rw [e1]
     by_cases h2:a<=65535
     · by_cases h4:b<=65535
       · have e2:ab4 ((if b>a then b else a)<=65535)=ab2:=aH (by split<;>omega)
         rw [e2]
         by_cases h5:a=b
         · rw [dv h5,aD (p:=cZ (a,b)) (fun h=>h.2.2.2.2 h5)];rfl
         rw [fH h5,aH (p:=cZ (a,b)) ⟨h1,h2,h3,h4,h5⟩];rfl
       have e2:ab4 ((if b>a then b else a)<=65535)=ab3:=aD (by split<;>omega)
       rw [e2,aD (p:=cZ (a,b)) (fun h=>h4 h.2.2.2.1)];rfl
     have e2:ab4 ((if b>a then b else a)<=65535)=ab3:=aD (by split<;>omega)
     rw [e2,aD (p:=cZ (a,b)) (fun h=>h2 h.2.1)];rfl
   have e1:ab4 (0<=if b<a then b else a)=ab3:=aD (by split<;>omega)
   rw [e1,aD (p:=cZ (a,b)) (fun h=>h3 h.2.2.1)];rfl
 have e1:ab4 (0<=if b<a then b else a)=ab3:=aD (by split<;>omega)
 rw [e1,aD (p:=cZ (a,b)) (fun h=>h1 h.1)];rfl
theorem p6 (x:Int×Int):lS x=ab1 (ab4 (cZ x)):=by
 obtain ⟨a,b⟩:=x;unfold lS;dsimp only
 by_cases h1:0<=a
 · by_cases h2:a<=65535
   · by_cases h3:0<=b
     · by_cases h4:b<=65535
       · by_cases h5:a=b
         · rw [dv h5,aH h1,aH h2,aH h3,aH h4,aD (p:=cZ (a,b)) (fun h=>h.2.2.2.2 h5)];rfl
         rw [fH h5,aH h1,aH h2,aH h3,aH h4,aH (p:=cZ (a,b)) ⟨h1,h2,h3,h4,h5⟩];rfl
       rw [aH h1,aH h2,aH h3,aD h4,aD (p:=cZ (a,b)) (fun h=>h4 h.2.2.2.1)];rfl
     rw [aH h1,aH h2,aD h3,aD (p:=cZ (a,b)) (fun h=>h3 h.2.2.1)];rfl
   rw [aH h1,aD h2,aD (p:=cZ (a,b)) (fun h=>h2 h.2.1)];rfl
 rw [aD h1,aD (p:=cZ (a,b)) (fun h=>h1 h.1)];rfl
structure eD (c:aZ):Prop where
 len:(ab0 c.ce)<=200
 n0:0<=c.aL
 n1:c.aL<=1000000
 cv: ∀i,i<ab0 c.ce->cZ (c.ce[i]!).2
 nr: ∀i,i<ab0 c.ce->0<=(c.ce[i]!).1/\(c.ce[i]!).1<c.aL
 up: ∀i j,i<j->j<ab0 c.ce->(c.ce[i]!).1<(c.ce[j]!).1
 nd: ∀i j,i<j->j<ab0 c.ce->(c.ce[i]!).2≠(c.ce[j]!).2
def tX (l:List yg) (i:Nat):Int:=if i=0 then -1 else (l[i-1]!).1
def It (c:aZ) (i:Nat):Prop:=cZ (c.ce[i]!).2/\(∀j,j<i->(c.ce[j]!).2≠(c.ce[i]!).2)/\tX c.ce i<(c.ce[i]!).1/\(c.ce[i]!).1<c.aL
theorem eD.iff {c:aZ} (h1:(ab0 c.ce)<=200) (h2:0<=c.aL) (h3:c.aL<=1000000):eD c↔ ∀i,i<ab0 c.ce->It c i:=by
 constructor
 · intro ok i hi
   refine ⟨ok.cv i hi,fun j hj=>ok.nd j i hj hi,?_,(ok.nr i hi).2⟩;unfold tX;split
   · have:=(ok.nr i hi).1;omega
   exact ok.up (i-1) i (by omega) hi
 intro h
 have low: ∀i,i<ab0 c.ce->0<=(c.ce[i]!).1:=by
  intro i
  induction i with
  |zero=>intro hi;have:=(h 0 hi).2.2.1;unfold tX at this;rw [ol rfl] at this;omega
  |succ i ih=>intro hi;have h1:=(h (i+1) hi).2.2.1;unfold tX at h1;rw [pi (by omega),show i+1-1=i by omega] at h1;have:=ih (by omega);omega
 have up: ∀i j,i<j->j<ab0 c.ce->(c.ce[i]!).1<(c.ce[j]!).1:=by
  intro i j
  induction j with
  |zero=>intro h;omega
  |succ j ih=>
   intro lr hj;have h1:=(h (j+1) hj).2.2.1;unfold tX at h1;rw [pi (by omega),show j+1-1=j by omega] at h1
   by_cases e:i=j
   · subst e;exact h1
   have:=ih (by omega) (by omega)
   omega
 exact ⟨h1,h2,h3,fun i hi=>(h i hi).1,fun i hi=>⟨low i hi,(h i hi).2.2.2⟩,up,fun i j lr hj=>(h j hj).2.1 i lr⟩
theorem Cg (l:List yg) (k:Nat) (a b:Int):kE [a,b] ((l.take k).map fun x=>[x.2.1,x.2.2])=ab2:=by unfold kE;rw [List.all_eq_true];intro x hx;obtain ⟨y,hy,rfl⟩:=ut.1 hx;rfl
theorem Ch (l:List yg) (k:Nat) (x:Int×Int):zX ((l.take k).map fun y=>[y.2.1,y.2.2]) [x.1,x.2]=ab4 (∃j,j<k/\j<ab0 l/\(l[j]!).2=x):=by
 unfold zX;rw [PP,List.any_eq_true,decide_eq_true_iff];constructor
 · rintro ⟨y,hy,he⟩
   obtain ⟨z,hz,rfl⟩:=ut.1 hy;obtain ⟨j,h1,h2,rfl⟩:=eC.1 hz;have:[x.1,x.2]=[(l[j]!).2.1,(l[j]!).2.2]:=by simpa using he
   injection this with e1 e2;injection e2 with e2 _;exact ⟨j,h1,h2,v6 e1.symm e2.symm⟩
 rintro ⟨j,h1,h2,h3⟩
 refine ⟨[(l[j]!).2.1,(l[j]!).2.2],ut.2 ⟨l[j]!,eC.2 ⟨j,h1,h2,rfl⟩,rfl⟩,?_⟩;rw [h3];simp
theorem vH (c:aZ):lN c=ab1 (if eD c then 0 else 8):=by
 unfold lN;simp only [aB]
 by_cases h1:200<ab0 c.ce
 · rw [aH (show (200:Int)<((ab0 c.ce):Int) by omega),pi (fun h=>by have:=h.len;omega)];rfl
 rw [aD (show¬(200:Int)<((ab0 c.ce):Int) by omega)]
 by_cases h2:c.aL<0
 · rw [aH h2,pi (fun h=>by have:=h.n0;omega)];rfl
 rw [aD h2]
 by_cases h3:1000000<c.aL
 · rw [aH h3,pi (fun h=>by have:=h.n1;omega)];rfl
 rw [aD h3];simp only [lw];have key:=dD (body:=mq) (fun i=>(tX c.ce i,c.ce,((ab0 c.ce):Int),(i:Int),c.aL,c.ce,(c.ce.take i).map fun x=>[x.2.1,x.2.2])) (ab0 c.ce) (fun i=> ¬It c i) (r:=8) (e:=0) (fun i hi=>by
  have e1:ab4 ((i:Int)<((ab0 c.ce):Int))=ab2:=aH (by omega);have has:FU ((c.ce.take i).map fun x=>[x.2.1,x.2.2]) [(c.ce[i]!).2.1,(c.ce[i]!).2.2]=ab1 (ab4 (∃j,j<i/\j<ab0 c.ce/\(c.ce[j]!).2=(c.ce[i]!).2)):=by unfold FU;rw [Cg,Ch];rfl
  have nx:(c.ce.take (i+1)).map (fun x=>[x.2.1,x.2.2])=((c.ce.take i).map fun x=>[x.2.1,x.2.2])++[[(c.ce[i]!).2.1,(c.ce[i]!).2.2]]:=by rw [oK hi,List.map_append];rfl
  have ln:tX c.ce (i+1)=(c.ce[i]!).1:=by unfold tX;rw [pi (by omega),show i+1-1=i by omega]
  unfold mq;simp only [e1,ls,ar c.ce i hi,au,vG,has,nx,ln,aV (show i<1000000000 by omega)];unfold It
  by_cases b1:cZ (c.ce[i]!).2
  case neg=>rw [aD b1];exact ⟨fun _=>rfl,fun h=>absurd (pm.1 h).1 b1⟩
  rw [aH b1]
  by_cases b2: ∃j,j<i/\j<ab0 c.ce/\(c.ce[j]!).2=(c.ce[i]!).2
  · rw [aH b2]
    refine ⟨fun _=>rfl,fun h=>?_⟩;obtain ⟨j,j1,j2,j3⟩:=b2;exact absurd j3 ((pm.1 h).2.1 j j1)
  rw [aD b2];have b2': ∀j,j<i->(c.ce[j]!).2≠(c.ce[i]!).2:=fun j hj he=>b2 ⟨j,hj,by omega,he⟩
  by_cases b3:(c.ce[i]!).1<=tX c.ce i
  · rw [aH b3]
    exact ⟨fun _=>rfl,fun h=>absurd (pm.1 h).2.2.1 (by omega)⟩
  rw [aD b3]
  by_cases b4:c.aL<=(c.ce[i]!).1
  · rw [aH b4]
    exact ⟨fun _=>rfl,fun h=>absurd (pm.1 h).2.2.2 (by omega)⟩
  rw [aD b4];have ins:FV ((c.ce.take i).map fun x=>[x.2.1,x.2.2]) [(c.ce[i]!).2.1,(c.ce[i]!).2.2]=ab1 (((c.ce.take i).map fun x=>[x.2.1,x.2.2])++[[(c.ce[i]!).2.1,(c.ce[i]!).2.2]]):=by unfold FV Hu;rw [Cg,Ch,aD b2];rfl
  rw [ins];exact ⟨fun h=>absurd ⟨b1,b2',by omega,by omega⟩ h,fun _=>rfl⟩) (by
  unfold mq;have:ab4 (((ab0 c.ce):Int)<((ab0 c.ce):Int))=ab3:=aD (by omega);simp only [this,lw])
 have h0:tX c.ce 0= -1:=rfl;rw [h0] at key
 by_cases ok:eD c
 · rw [ol ok]
   exact key.2 fun i hi=>pm.2 ((eD.iff (by omega) (by omega) (by omega)).1 ok i hi)
 rw [pi ok]
 rw [eD.iff (by omega) (by omega) (by omega)] at ok;obtain ⟨i,h⟩:=v4.1 ok;obtain ⟨hi,hx⟩:=wn.1 h;exact key.1 ⟨i,hi,hx⟩
theorem GB (c:aZ) (i:Nat) (hi:i<ab0 c.ce) (hl:(ab0 c.ce)<=200):
 ((∃j,j<i/\(c.ce[j]!).2=(c.ce[i]!).2)->ax dT ((i:Int),0,c.aL,c.ce,c.ce[i]!)=ab1 (.done 8))/\
 ((∀j,j<i-> ¬(c.ce[j]!).2=(c.ce[i]!).2)->ax dT ((i:Int),0,c.aL,c.ce,c.ce[i]!)=ab1 (.next (((i+1:Nat):Int),c.aL,c.ce))):=by
 refine dD (body:=dT) (fun j=>((i:Int),(j:Int),c.aL,c.ce,c.ce[i]!)) i (fun j=>(c.ce[j]!).2=(c.ce[i]!).2) (r:= .done 8) (e:= .next (((i+1:Nat):Int),c.aL,c.ce)) (fun j hj=>?_) ?_
 · have e1:ab4 ((j:Int)<(i:Int))=ab2:=aH (by omega)
   unfold dT;simp only [e1,ls,ar c.ce j (by omega),au,aV (show j<1000000000 by omega)];generalize c.ce[j]! =x;generalize c.ce[i]! =y;constructor
   · intro h;rw [fe (congrArg aaj h),fe (congrArg aau h)];rfl
   intro h
   by_cases h1:x.2.1=y.2.1
   · rw [fe h1,ef (fun h2=>h (v6 h1 h2))];rfl
   rw [ef h1];rfl
 unfold dT
 have:ab4 ((i:Int)<(i:Int))=ab3:=aD (by omega);simp only [this,lw,aV (show i<1000000000 by omega)]
theorem Ci (c:aZ):tQ c=ab1 (if eD c then 0 else 8):=by
 unfold tQ;simp only [aB]
 by_cases h1:200<ab0 c.ce
 · rw [aH (show (200:Int)<((ab0 c.ce):Int) by omega),pi (fun h=>by have:=h.len;omega)];rfl
 rw [aD (show¬(200:Int)<((ab0 c.ce):Int) by omega)]
 by_cases h2:c.aL<0
 · rw [aH h2,pi (fun h=>by have:=h.n0;omega)];rfl
 rw [aD h2]
 by_cases h3:1000000<c.aL
 · rw [aH h3,pi (fun h=>by have:=h.n1;omega)];rfl
 rw [aD h3];simp only [lw];have key:=dD (body:=k8) (fun i=>((i:Int),c.aL,c.ce)) (ab0 c.ce) (fun i=> ¬(cZ (c.ce[i]!).2/\0<=(c.ce[i]!).1/\(c.ce[i]!).1<c.aL/\(0<i->(c.ce[i-1]!).1<(c.ce[i]!).1)/\ ∀j,j<i-> ¬(c.ce[j]!).2=(c.ce[i]!).2)) (r:=8) (e:=0) (fun i hi=>by
  have e1:ab4 ((i:Int)<((ab0 c.ce):Int))=ab2:=aH (by omega);have l1:=GB c i hi (by omega);unfold k8;simp only [aB,e1,ls,ar c.ce i hi,au,p6]
  by_cases b1:cZ (c.ce[i]!).2
  case neg=>rw [aD b1];exact ⟨fun _=>rfl,fun h=>absurd (pm.1 h).1 b1⟩
  rw [aH b1]
  by_cases b2:(c.ce[i]!).1<0
  · rw [aH b2]
    exact ⟨fun _=>rfl,fun h=>absurd (pm.1 h).2.1 (by omega)⟩
  rw [aD b2]
  by_cases b3:c.aL<=(c.ce[i]!).1
  · rw [aH b3]
    exact ⟨fun _=>rfl,fun h=>absurd (pm.1 h).2.2.1 (by omega)⟩
  rw [aD b3];simp only [pp,lw];have go:(0<i->(c.ce[i-1]!).1<(c.ce[i]!).1)->(¬(cZ (c.ce[i]!).2/\0<=(c.ce[i]!).1/\(c.ce[i]!).1<c.aL/\(0<i->(c.ce[i-1]!).1<(c.ce[i]!).1)/\ ∀j,j<i-> ¬(c.ce[j]!).2=(c.ce[i]!).2)->ax dT ((i:Int),0,c.aL,c.ce,c.ce[i]!)=ab1 (.done 8))/\
   (¬¬(cZ (c.ce[i]!).2/\0<=(c.ce[i]!).1/\(c.ce[i]!).1<c.aL/\(0<i->(c.ce[i-1]!).1<(c.ce[i]!).1)/\ ∀j,j<i-> ¬(c.ce[j]!).2=(c.ce[i]!).2)->ax dT ((i:Int),0,c.aL,c.ce,c.ce[i]!)=ab1 (.next (((i+1:Nat):Int),c.aL,c.ce))):=by
   intro hp;constructor
   · intro h
     refine l1.1 (Classical.byContradiction fun hx=>h ⟨b1,by omega,by omega,hp,fun j hj he=>hx ⟨j,hj,he⟩⟩)
   intro h
   exact l1.2 (pm.1 h).2.2.2.2
  by_cases b4:0<i
  · have f1:ab4 ((0:Int)<(i:Int))=ab2:=aH (by omega)
    simp only [f1,ls,xR (show i<1000000000 by omega) b4,ar c.ce (i-1) (by omega),au]
    by_cases b5:(c.ce[i]!).1<=(c.ce[i-1]!).1
    · rw [aH b5]
      exact ⟨fun _=>rfl,fun h=>absurd ((pm.1 h).2.2.2.1 b4) (by omega)⟩
    rw [aD b5]
    exact go fun _=>by omega
  · have f1:ab4 ((0:Int)<(i:Int))=ab3:=aD (by omega)
    rw [f1];exact go fun h=>absurd h b4) (by
  unfold k8;have:ab4 (((ab0 c.ce):Int)<((ab0 c.ce):Int))=ab3:=aD (by omega);simp only [aB,this,lw])
 have same:eD c↔ ∀i,i<ab0 c.ce->(cZ (c.ce[i]!).2/\0<=(c.ce[i]!).1/\(c.ce[i]!).1<c.aL/\(0<i->(c.ce[i-1]!).1<(c.ce[i]!).1)/\ ∀j,j<i-> ¬(c.ce[j]!).2=(c.ce[i]!).2):=by
  constructor
  · intro ok i hi
    exact ⟨ok.cv i hi,(ok.nr i hi).1,(ok.nr i hi).2,fun h=>ok.up (i-1) i (by omega) hi,fun j hj=>ok.nd j i hj hi⟩
  intro h
  rw [eD.iff (by omega) (by omega) (by omega)];intro i hi;obtain ⟨a1,a2,a3,a4,a5⟩:=h i hi;refine ⟨a1,a5,?_,a3⟩;unfold tX;split
  · omega
  exact a4 (by omega)
 by_cases ok:eD c
 · rw [ol ok]
   exact key.2 fun i hi=>pm.2 (same.1 ok i hi)
 rw [pi ok]
 rw [same] at ok;obtain ⟨i,h⟩:=v4.1 ok;obtain ⟨hi,hx⟩:=wn.1 h;exact key.1 ⟨i,hi,hx⟩
def tY (l:List yg) (x:Int×Int):Prop:= ∃i,i<ab0 l/\(l[i]!).2=x
theorem GC (l:List yg) (x:Int×Int) (hl:(ab0 l)<=1000000):bF l x=ab1 (ab4 (tY l x)):=by
 unfold bF dH;have key:=ke (body:=cw) (fun i=>(l,x.1,x.2,((ab0 l):Int),(i:Int))) (ab0 l) (fun i=>(l[i]!).2=x) (fun i=>(i:Int)) (e:= -1) (fun i hi=>by
  have e1:ab4 ((i:Int)<((ab0 l):Int))=ab2:=aH (by omega);unfold cw wC;simp only [e1,ls,ar l i hi,au,aV (show i<1000000000 by omega)];generalize l[i]! =y;constructor
  · intro h;rw [fe (congrArg aaj h),fe (congrArg aau h)];rfl
  · intro h
    by_cases h1:y.2.1=x.1
    · rw [fe h1,ef (fun h2=>h (v6 h1 h2))];rfl
    rw [ef h1];rfl) (by
  unfold cw;have:ab4 (((ab0 l):Int)<((ab0 l):Int))=ab3:=aD (by omega);simp only [this,lw])
 rw [aB]
 by_cases hx:tY l x
 · obtain ⟨k,h1,h2,h3⟩:=least hx
   have:=key.1 k h1 h2 h3;rw [show ((0:Nat):Int)=0 from rfl] at this;rw [this,aH hx];simp only [au,aH (show (0:Int)<=(k:Int) by omega)]
 have:=key.2 fun i hi he=>hx ⟨i,hi,he⟩
 rw [show ((0:Nat):Int)=0 from rfl] at this;rw [this,aD hx];rfl
theorem ze:cN=bF:=rfl
theorem xU (c:aZ) (x:Int×Int) (hl:(ab0 c.ce)<=1000000):uK c x=ab1 (ab4 (tY c.ce x)):=by
 unfold uK;have key:=dD (body:=nW) (fun i=>((i:Int),c.aL,c.ce,x)) (ab0 c.ce) (fun i=>(c.ce[i]!).2=x) (r:=ab2) (e:=ab3) (fun i hi=>by
  have e1:ab4 ((i:Int)<((ab0 c.ce):Int))=ab2:=aH (by omega);unfold nW;simp only [aB,e1,ls,ar c.ce i hi,au,aV (show i<1000000000 by omega)];generalize c.ce[i]! =y;constructor
  · intro h;rw [fe (congrArg aaj h),fe (congrArg aau h)];rfl
  · intro h
    by_cases h1:y.2.1=x.1
    · rw [fe h1,ef (fun h2=>h (v6 h1 h2))];rfl
    rw [ef h1];rfl) (by
  unfold nW;have:ab4 (((ab0 c.ce):Int)<((ab0 c.ce):Int))=ab3:=aD (by omega);simp only [aB,this,lw])
 by_cases hx:tY c.ce x
 · rw [aH hx];exact key.1 hx
 rw [aD hx];exact key.2 fun i hi he=>hx ⟨i,hi,he⟩
def la (c:aZ) (x:Int×Int):aZ:=⟨c.aL+1,c.ce++[(c.aL,x)]⟩
def xV (c:aZ):Prop:=ab0 c.ce=200\/c.aL=1000000
theorem GD {c:aZ} (ok:eD c) {x:Int×Int} (hx:cZ x):xK c x=ab1 (if tY c.ce x then (⟨0,[]⟩,0,14) else if xV c then (⟨0,[]⟩,0,18) else (la c x,c.aL,0)):=by
 have:=ok.len;have:=ok.n0;have:=ok.n1;unfold xK;rw [vH,ol ok,vG,aH hx,GC _ _ (by omega)];simp only [au,show ((0:Int) !=0)=ab3 from rfl,lw,pp,aB]
 by_cases h1:tY c.ce x
 · rw [aH h1,ol h1];rfl
 rw [aD h1,pi h1];unfold xV
 by_cases h2:(ab0 c.ce)=200
 · rw [fe (show ((ab0 c.ce):Int)=200 by omega),ol (.inl h2)];rfl
 rw [ef (show¬((ab0 c.ce):Int)=200 by omega)]
 by_cases h3:c.aL=1000000
 · rw [fe h3,ol (.inr h3)];rfl
 rw [ef h3,pi (by omega)];have e:aa .i64 (c.aL+1)=c.aL+1:=by rw [wi];omega
 simp only [lw,bg (show (ab0 c.ce)<=1048576 by omega),au,fa (show (ab0 c.ce)+[(c.aL,x)].length<=1048576 by simp;omega),e];rfl
theorem EI {c:aZ} (ok:eD c) {x:Int×Int} (hx:cZ x):y8 c x=ab1 (if tY c.ce x then (⟨0,[]⟩,0,14) else if xV c then (⟨0,[]⟩,0,18) else (la c x,c.aL,0)):=by
 have:=ok.len;have:=ok.n0;have:=ok.n1;unfold y8 rR;rw [Ci,ol ok,p6,aH hx,xU _ _ (by omega)];simp only [au,show ((0:Int) !=0)=ab3 from rfl,lw,pp,aB]
 by_cases h1:tY c.ce x
 · rw [aH h1,ol h1];rfl
 rw [aD h1,pi h1];unfold xV
 by_cases h2:(ab0 c.ce)=200
 · rw [fe (show ((ab0 c.ce):Int)=200 by omega),ol (.inl h2)];rfl
 rw [ef (show¬((ab0 c.ce):Int)=200 by omega)]
 by_cases h3:c.aL=1000000
 · rw [fe h3,ol (.inr h3)];rfl
 rw [ef h3,pi (by omega)];have e:aa .i64 (c.aL+1)=c.aL+1:=by rw [wi];omega
 simp only [lw,bg (show (ab0 c.ce)<=1048576 by omega),au,fa (show (ab0 c.ce)+[(c.aL,x)].length<=1048576 by simp;omega),e];rfl
theorem oM {c:aZ} {x:Int×Int} {i:Nat}:(la c x).ce[i]! =if i<(ab0 c.ce) then c.ce[i]! else if i=(ab0 c.ce) then (c.aL,x) else default:=by
 show (c.ce++[(c.aL,x)])[i]! =_
 by_cases h:i<ab0 c.ce
 · rw [ol h,eB h]
 rw [pi h,eL (by omega)]
 by_cases e:i=ab0 c.ce
 · rw [ol e,e,AC];rfl
 rw [pi e,getElem!_neg _ _ (by simp;omega)]
theorem uT {c:aZ} {x:Int×Int}:(la c x).ce.length=ab0 c.ce+1:=by show (c.ce++[(c.aL,x)]).length=_;simp
theorem Iu {c:aZ} (ok:eD c) {x:Int×Int} (hx:cZ x) (hn: ¬tY c.ce x) (hf: ¬xV c):eD (la c x):=by
 have h1:=ok.len;have h2:=ok.n0;have h3:=ok.n1;unfold xV at hf;refine ⟨by rw [uT];omega,by show 0<=c.aL+1;omega,by show c.aL+1<=1000000;omega,?_,?_,?_,?_⟩
 · intro i hi
   rw [uT] at hi;rw [oM]
   by_cases h:i<ab0 c.ce
   · rw [ol h];exact ok.cv i h
   rw [pi h,ol (by omega)];exact hx
 · intro i hi
   rw [uT] at hi;rw [oM];show 0<=_/\_<c.aL+1
   by_cases h:i<ab0 c.ce
   · rw [ol h];have:=ok.nr i h;omega
   rw [pi h,ol (by omega)];dsimp only;omega
 · intro i j lr hj
   rw [uT] at hj;rw [oM,oM,ol (by omega)]
   by_cases h:j<ab0 c.ce
   · rw [ol h];exact ok.up i j lr h
   rw [pi h,ol (by omega)]
   exact (ok.nr i (by omega)).2
 intro i j lr hj
 rw [uT] at hj;rw [oM,oM,ol (by omega)]
 by_cases h:j<ab0 c.ce
 · rw [ol h];exact ok.nd i j lr h
 rw [pi h,ol (by omega)]
 exact fun he=>hn ⟨i,by omega,he⟩
def qG (l:List Pt) (id:Int):Prop:= ∃k,k<ab0 l/\(l[k]!).1=id
noncomputable def pN (l:List Pt) (id:Int):Pt:=if h:qG l id then l[h.choose]! else (-1,0,0)
theorem xW {l:List Pt} (hs:gX l) {k:Nat} (hk:k<ab0 l) {id:Int} (h:(l[k]!).1=id):pN l id=l[k]!:=by have hp:qG l id:=⟨k,hk,h⟩;unfold pN;rw [dif_pos hp];have:=hp.choose_spec;rw [oJ hs this.1 hk (by rw [this.2,h])]
theorem je {l:List Pt} (ok:cj l) {id:Int} (h:qG l id):ff (pN l id)/\(pN l id).1=id:=by obtain ⟨k,hk,he⟩:=h;rw [xW ok.2.2 hk he];exact ⟨ok.2.1 _ (bU hk),he⟩
theorem zf {l:List Pt} {id:Int} (h: ¬qG l id):pN l id=(-1,0,0):=by unfold pN;rw [dif_neg h]
theorem lb {l:List Pt} (ok:cj l) (id:Int):ga ⟨l⟩ id=ab1 (pN l id):=by
 have h1:=ok.1;have bs:=JD l id (by omega) (fun i j=>oa ok.2.2);unfold ga;dsimp only;rw [NQ]
 by_cases h:qG l id
 · obtain ⟨k,hk,he⟩:=h
   rw [bs.1 k hk he];simp only [au,pp,lw,ar l k hk,xW ok.2.2 hk he]
 obtain ⟨m,m1,m2,m3,e⟩:=bs.2 (fun k hk he=>h ⟨k,hk,he⟩)
 rw [e,zf h];rfl
theorem zg {l:List Pt} (ok:cj l) {id:Int} (h:qG l id): ∃k,k<ab0 l/\eK ⟨l⟩ id=ab1 (k:Int)/\l[k]! =pN l id:=by have h1:=ok.1;obtain ⟨k,hk,he⟩:=h;exact ⟨k,hk,Dw ok.2.2 (by omega) hk he,(xW ok.2.2 hk he).symm⟩
theorem NR {l:List Pt} (ok:cj l) {id:Int} (h: ¬qG l id):eK ⟨l⟩ id=ab1 (-1):=by have h1:=ok.1;exact RJ (by omega) fun k hk he=>h ⟨k,hk,he⟩
def gZ (l:List Pt) (x:Int×Int):Prop:=qG l x.1/\qG l x.2
noncomputable def dw (l:List Pt) (x t:Int×Int):(Int×Int)×Bool:=vA (pN l x.2) (pN l x.1) t
theorem vI {l:List Pt} (ok:cj l) {x t:Int×Int} (hx:cZ x) (ht:bT t) (h64:nX t):
 lQ ⟨l⟩ x t=ab1 (if gZ l x then ((dw l x t).1,(dw l x t).2,0) else ((0,0),ab3,8)):=by
 unfold lQ;rw [lb ok,lb ok];simp only [au,z4 h64];have bad: ¬ff (-1,0,0):=by unfold ff;dsimp only;omega
 by_cases h1:qG l x.1
 · by_cases h2:qG l x.2
   · obtain ⟨p1,p2⟩:=je ok h1
     obtain ⟨q1,q2⟩:=je ok h2;rw [ol ⟨q1,p1,ht,by rw [p2,q2];exact fun h=>hx.2.2.2.2 h.symm⟩,ol ⟨h1,h2⟩];rfl
   rw [zf h2,pi (fun h=>bad h.1),pi (fun h=>bad h.1),pi (fun h=>h2 h.2)]
 rw [zf h1,pi (fun h=>bad h.2.1),pi (fun h=>bad h.2.1),pi (fun h=>h1 h.1)]
theorem CL {l:List Pt} (ok:cj l) {x t:Int×Int} (h64:nX t) (hb:gZ l x):rS ⟨l⟩ x t=ab1 (dw l x t):=by obtain ⟨h1,h2⟩:=hb;obtain ⟨j,j1,j2,j3⟩:=zg ok h1;obtain ⟨k,k1,k2,k3⟩:=zg ok h2;unfold rS;simp only [j2,k2,au,ar l j j1,ar l k k1,j3,k3,Ij (je ok h2).1 (je ok h1).1 h64];rfl
def bj (l:List Pt) (t:Int×Int) (H:List Ev):List yg->List yg->Prop
 | [],ds=>ds=[]
 |x::cs,ds=>((dw l x.2 t).2=ab2-> ∃d FQ,ds=d::FQ/\d.1=x.1/\((dw l x.2 t).1.1,(dw l x.2 t).1.2,x.1,d.2)∈H/\bj l t H cs FQ)/\((dw l x.2 t).2=ab3->bj l t H cs ds)
structure cy (c:aK):Prop where
 wI:bT c.ci
 oN:nX c.ci
 qL:cj c.dl.am
 DD:eD c.ai
 sG:iA c.ae
 K1:(ab0 c.ae.ay)=200
 hd:(ab0 c.ae.bv)=ab0 c.ii
 known: ∀i,i<ab0 c.ai.ce->gZ c.dl.am (c.ai.ce[i]!).2
 JE:bj c.dl.am c.ci c.ae.bv c.ai.ce c.ii
structure xX (c:aK):Prop where
 oN:nX c.ci
 ag:Cb c.ae
 du:(ab0 c.ii)<=1000000
theorem abq {a:aJ} (ok:iA a) (w2:(ab0 a.ay)=200) (t:Int×Int) (n:Int) (h:Int×Int):
 (0<=h.1/\h.1<200/\0<=a.ay[h.1.toNat]!/\a.bv[(a.ay[h.1.toNat]!).toNat]! =(t.1,t.2,n,h))↔((t.1,t.2,n,h):Ev)∈a.bv:=by
 have wl:=ok.wl;have hu:=ok.so.ul;constructor
 · rintro ⟨h1,h2,h3,h4⟩
   cases hb:a.af.be[h.1.toNat]! with
   |false=>have:=ok.un h.1.toNat (by omega) hb;omega
   |true=>have:=ok.fwd h.1.toNat (by omega) hb;rw [<- h4];exact bU (by omega)
 intro hm
 obtain ⟨w,hw,he⟩:=bQ.1 hm;obtain ⟨b1,b2,b3,b4,b5⟩:=ok.back hw;have e:Ev.ix a.bv[w]! =h.1:=by rw [he]
 have e2:Ev.n a.bv[w]! =h.1.toNat:=by rw [he]
 rw [e] at b1 b2;rw [e2] at b5;refine ⟨b1,by omega,by omega,?_⟩;rw [b5,IR,he]
theorem NS {a:aJ} (ok:iA a) {i:Nat} (hi:i<ab0 a.af.aC) (h:0<=a.ay[i]!):a.ay[i]!<(ab0 a.bv):=by
 cases hb:a.af.be[i]! with
 |false=>have:=ok.un i hi hb;omega
 |true=>exact (ok.fwd i hi hb).2.1
theorem K2 {α:Type} [Inhabited α] {l:List α} {i:Nat} (h:i<ab0 l):l.drop i=l[i]!::l.drop (i+1):=by rw [getElem!_pos l i h];exact List.drop_eq_getElem_cons h
theorem GF {c:aK} (wI:bT c.ci) (oN:nX c.ci) (qL:cj c.dl.am) (DD:eD c.ai) (sG:iA c.ae) (w2:(ab0 c.ae.ay)=200):
 ∀(d i:Nat) (ds:List yg),ab0 c.ai.ce-i<=d->i<=ab0 c.ai.ce->ab0 ds<=1000000->
  ax bP (ds,c.ai.ce,((ab0 c.ai.ce):Int),(i:Int),c.ci.1,c.ci.2,c.dl.am,c.ai.aL,c.ai.ce,c.ae.af.aC,c.ae.af.be,c.ae.af.bi,c.ae.bv,c.ae.ay,c.ii)=
   ab1 (.done (if (∀j,i<=j->j<ab0 c.ai.ce->gZ c.dl.am (c.ai.ce[j]!).2)/\bj c.dl.am c.ci c.ae.bv (c.ai.ce.drop i) ds then 0 else 8)):=by
 have hl:=DD.len;have wl:=sG.wl;have fin: ∀(ds:List yg),ax bP (ds,c.ai.ce,((ab0 c.ai.ce):Int),((ab0 c.ai.ce):Int),c.ci.1,c.ci.2,c.dl.am,c.ai.aL,c.ai.ce,c.ae.af.aC,c.ae.af.be,c.ae.af.bi,c.ae.bv,c.ae.ay,c.ii)=ab1 (.done (if ds=[] then 0 else 8)):=by
  intro ds;refine aF ?_;unfold bP;have e1:ab4 (((ab0 c.ai.ce):Int)<((ab0 c.ai.ce):Int))=ab3:=aD (by omega);simp only [aB,e1,lw];cases ds with
  |nil=>rw [aD (by simp),ol rfl];rfl
  |cons d ds=>rw [aH (by simp),pi (by simp)];rfl
 intro d
 induction d with
 |zero=>
  intro i ds hd hi Za;have:i=(ab0 c.ai.ce):=by omega
  subst this;rw [fin ds,NE];have:((∀j,ab0 c.ai.ce<=j->j<ab0 c.ai.ce->gZ c.dl.am (c.ai.ce[j]!).2)/\bj c.dl.am c.ci c.ae.bv [] ds)↔ds=[]:=⟨fun h=>h.2,fun h=>⟨fun j h1 h2=>by omega,h⟩⟩
  by_cases h:ds=[]
  · rw [ol h,ol (this.2 h)]
  rw [pi h,pi (fun k=>h (this.1 k))]
 |succ d ih=>
  intro i ds hd hi Za
  by_cases he:i=ab0 c.ai.ce
  · subst he
    rw [fin ds,NE];have:((∀j,ab0 c.ai.ce<=j->j<ab0 c.ai.ce->gZ c.dl.am (c.ai.ce[j]!).2)/\bj c.dl.am c.ci c.ae.bv [] ds)↔ds=[]:=⟨fun h=>h.2,fun h=>⟨fun j h1 h2=>by omega,h⟩⟩
    by_cases h:ds=[]
    · rw [ol h,ol (this.2 h)]
    rw [pi h,pi (fun k=>h (this.1 k))]
  have u7:i<(ab0 c.ai.ce):=by omega
  have e1:ab4 ((i:Int)<((ab0 c.ai.ce):Int))=ab2:=aH (by omega);have hw:=vI qL (x:=(c.ai.ce[i]!).2) (t:=(c.ci.1,c.ci.2)) (DD.cv i u7) wI oN;have dr:=K2 u7;have all:(∀j,i<=j->j<ab0 c.ai.ce->gZ c.dl.am (c.ai.ce[j]!).2)↔(gZ c.dl.am (c.ai.ce[i]!).2/\ ∀j,i+1<=j->j<ab0 c.ai.ce->gZ c.dl.am (c.ai.ce[j]!).2):=by
   constructor
   · intro h;exact ⟨h i (rc _) u7,fun j h1 h2=>h j (by omega) h2⟩
   rintro ⟨h1,h2⟩ j h3 h4
   by_cases e:j=i
   · rw [e];exact h1
   exact h2 j (by omega) h4
  have sc:=aV (show i<1000000000 by omega)
  by_cases hb:gZ c.dl.am (c.ai.ce[i]!).2
  case neg=>rw [pi (fun h=>hb (all.1 h.1).1)];refine aF ?_;unfold bP;simp only [e1,ls,ar c.ai.ce i u7,au,hw,pi hb];rfl
  rw [ol hb] at hw
  by_cases is:(dw c.dl.am (c.ai.ce[i]!).2 c.ci).2=ab2
  case neg=>
   have is':(dw c.dl.am (c.ai.ce[i]!).2 c.ci).2=ab3:=by simpa using is
   rw [aT (y:=(ds,c.ai.ce,((ab0 c.ai.ce):Int),((i+1:Nat):Int),c.ci.1,c.ci.2,c.dl.am,c.ai.aL,c.ai.ce,c.ae.af.aC,c.ae.af.be,c.ae.af.bi,c.ae.bv,c.ae.ay,c.ii)) (by unfold bP;simp only [e1,ls,ar c.ai.ce i u7,au,hw,sc,is',show ((0:Int) !=0)=ab3 from rfl,lw,aag]),ih (i+1) ds (by omega) (by omega) Za];have same:((∀j,i<=j->j<ab0 c.ai.ce->gZ c.dl.am (c.ai.ce[j]!).2)/\bj c.dl.am c.ci c.ae.bv (c.ai.ce.drop i) ds)↔((∀j,i+1<=j->j<ab0 c.ai.ce->gZ c.dl.am (c.ai.ce[j]!).2)/\bj c.dl.am c.ci c.ae.bv (c.ai.ce.drop (i+1)) ds):=by
    rw [dr,all];constructor
    · rintro ⟨⟨_,h1⟩,h2⟩;exact ⟨h1,h2.2 is'⟩
    rintro ⟨h1,h2⟩;exact ⟨⟨hb,h1⟩,fun h=>absurd h is,fun _=>h2⟩
   simp only [same]
  have stop:(¬((∀j,i<=j->j<ab0 c.ai.ce->gZ c.dl.am (c.ai.ce[j]!).2)/\bj c.dl.am c.ci c.ae.bv (c.ai.ce.drop i) ds))->bP (ds,c.ai.ce,((ab0 c.ai.ce):Int),(i:Int),c.ci.1,c.ci.2,c.dl.am,c.ai.aL,c.ai.ce,c.ae.af.aC,c.ae.af.be,c.ae.af.bi,c.ae.bv,c.ae.ay,c.ii)=ab1 (.done (.done 8))->ax bP (ds,c.ai.ce,((ab0 c.ai.ce):Int),(i:Int),c.ci.1,c.ci.2,c.dl.am,c.ai.aL,c.ai.ce,c.ae.af.aC,c.ae.af.be,c.ae.af.bi,c.ae.bv,c.ae.ay,c.ii)=
   ab1 (.done (if (∀j,i<=j->j<ab0 c.ai.ce->gZ c.dl.am (c.ai.ce[j]!).2)/\bj c.dl.am c.ci c.ae.bv (c.ai.ce.drop i) ds then 0 else 8)):=by
   intro h1 h2;rw [pi h1];exact aF h2
  cases ds with
  |nil=>
   refine stop (fun h=>?_) ?_
   · rw [dr] at h
     obtain ⟨d,FQ,h1,_⟩:=h.2.1 is;cases h1
   unfold bP
   simp only [e1,ls,ar c.ai.ce i u7,au,hw,is,show ((0:Int) !=0)=ab3 from rfl,lw,pp];rfl
  |cons d0 ds=>
   have l0:((((d0::ds).length:Nat):Int)==0)=ab3:=ef (by simp;omega);have g0:aA (d0::ds) 0=ab1 d0:=rfl;have JE: ∀P:Prop,(P↔d0.1=(c.ai.ce[i]!).1/\(((dw c.dl.am (c.ai.ce[i]!).2 c.ci).1.1,(dw c.dl.am (c.ai.ce[i]!).2 c.ci).1.2,(c.ai.ce[i]!).1,d0.2):Ev)∈c.ae.bv)-> ¬P-> ¬((∀j,i<=j->j<ab0 c.ai.ce->gZ c.dl.am (c.ai.ce[j]!).2)/\bj c.dl.am c.ci c.ae.bv (c.ai.ce.drop i) (d0::ds)):=by intro P hP hn h;rw [dr] at h;obtain ⟨d,FQ,h1,h2,h3,_⟩:=h.2.1 is;injection h1 with h1 _;subst h1;exact hn (hP.2 ⟨h2,h3⟩)
   by_cases b1:d0.1=(c.ai.ce[i]!).1
   case neg=>refine stop (JE (d0.1=(c.ai.ce[i]!).1/\_) aa7 (fun h=>b1 h.1)) ?_;unfold bP;simp only [aB,e1,ls,ar c.ai.ce i u7,au,hw,is,show ((0:Int) !=0)=ab3 from rfl,lw,pp,l0,g0,fH b1]
   have ea:=abq sG w2 (dw c.dl.am (c.ai.ce[i]!).2 c.ci).1 (c.ai.ce[i]!).1 d0.2
   by_cases b2:d0.2.1<0
   · refine stop (JE (d0.1=(c.ai.ce[i]!).1/\_) aa7 (fun h=>by have:=(ea.2 h.2).1;omega)) ?_
     unfold bP;simp only [aB,e1,ls,ar c.ai.ce i u7,au,hw,is,show ((0:Int) !=0)=ab3 from rfl,lw,pp,l0,g0,dv b1,aH b2]
   by_cases b3:200<=d0.2.1
   · refine stop (JE (d0.1=(c.ai.ce[i]!).1/\_) aa7 (fun h=>by have:=(ea.2 h.2).2.1;omega)) ?_
     unfold bP;simp only [aB,e1,ls,ar c.ai.ce i u7,au,hw,is,show ((0:Int) !=0)=ab3 from rfl,lw,pp,l0,g0,dv b1,aD b2,aH b3]
   have gw:=jB (l:=c.ae.ay) (i:=d0.2.1) (by omega) (by omega)
   by_cases b4:c.ae.ay[d0.2.1.toNat]!<0
   · refine stop (JE (d0.1=(c.ai.ce[i]!).1/\_) aa7 (fun h=>by have:=(ea.2 h.2).2.2.1;omega)) ?_
     unfold bP;simp only [aB,e1,ls,ar c.ai.ce i u7,au,hw,is,show ((0:Int) !=0)=ab3 from rfl,lw,pp,l0,g0,dv b1,aD b2,aD b3,gw,aH b4]
   have gh:=jB (l:=c.ae.bv) (i:=c.ae.ay[d0.2.1.toNat]!) (by omega) (NS sG (by omega) (by omega));have sl:gx (d0::ds) 1 ((((d0::ds).length:Nat):Int))=ab1 ds:=by unfold gx;rw [ol ⟨by omega,by simp;omega,by omega⟩];simp
   have evq: ∀(e:Ev) (p:Int×Int) (n:Int) (h:Int×Int),((e.1==p.1)&&((e.2.1==p.2)&&((e.2.2.1==n)&&((e.2.2.2.1==h.1)&&(e.2.2.2.2==h.2)))))=ab4 (e=(p.1,p.2,n,h)):=by
    intro e p n h;rw [PP,decide_eq_true_iff];simp only [Bool.and_eq_true,beq_iff_eq];constructor
    · rintro ⟨h1,h2,h3,h4,h5⟩
      exact v6 h1 (v6 h2 (v6 h3 (v6 h4 h5)))
    intro h;rw [h];exact ⟨rfl,rfl,rfl,rfl,rfl⟩
   have abr:=evq c.ae.bv[(c.ae.ay[d0.2.1.toNat]!).toNat]! (dw c.dl.am (c.ai.ce[i]!).2 c.ci).1 (c.ai.ce[i]!).1 d0.2
   by_cases b5:c.ae.bv[(c.ae.ay[d0.2.1.toNat]!).toNat]! =((dw c.dl.am (c.ai.ce[i]!).2 c.ci).1.1,(dw c.dl.am (c.ai.ce[i]!).2 c.ci).1.2,(c.ai.ce[i]!).1,d0.2)
   case neg=>refine stop (JE (d0.1=(c.ai.ce[i]!).1/\_) aa7 (fun h=>b5 (ea.2 h.2).2.2.2)) ?_;unfold bP;simp only [aB,e1,ls,ar c.ai.ce i u7,au,hw,is,show ((0:Int) !=0)=ab3 from rfl,lw,pp,l0,g0,dv b1,aD b2,aD b3,gw,aD b4,gh];rw [abr,aD b5];rfl
   have wZ:=ea.1 ⟨by omega,by omega,by omega,b5⟩;rw [aT (y:=(ds,c.ai.ce,((ab0 c.ai.ce):Int),((i+1:Nat):Int),c.ci.1,c.ci.2,c.dl.am,c.ai.aL,c.ai.ce,c.ae.af.aC,c.ae.af.be,c.ae.af.bi,c.ae.bv,c.ae.ay,c.ii)) (by unfold bP;simp only [aB,e1,ls,ar c.ai.ce i u7,au,hw,is,show ((0:Int) !=0)=ab3 from rfl,lw,pp,l0,g0,dv b1,aD b2,aD b3,gw,aD b4,gh,sl,sc];rw [abr,aH b5];rfl),ih (i+1) ds (by omega) (by omega) (by simp at Za;omega)];have same:((∀j,i<=j->j<ab0 c.ai.ce->gZ c.dl.am (c.ai.ce[j]!).2)/\bj c.dl.am c.ci c.ae.bv (c.ai.ce.drop i) (d0::ds))↔((∀j,i+1<=j->j<ab0 c.ai.ce->gZ c.dl.am (c.ai.ce[j]!).2)/\bj c.dl.am c.ci c.ae.bv (c.ai.ce.drop (i+1)) ds):=by
    rw [dr,all];constructor
    · rintro ⟨⟨_,h1⟩,h2⟩
      obtain ⟨d,FQ,k1,k2,k3,k4⟩:=h2.1 is;injection k1 with k1 k5;subst k5;exact ⟨h1,k4⟩
    rintro ⟨h1,h2⟩
    exact ⟨⟨hb,h1⟩,fun _=>⟨d0,ds,rfl,b1,wZ,h2⟩,fun h=>by rw [is] at h;cases h⟩
   simp only [same]
theorem cy.iff {c:aK} (fit:xX c):cy c↔bT c.ci/\cj c.dl.am/\eD c.ai/\iA c.ae/\ab0 c.ae.ay=200/\ab0 c.ae.bv=ab0 c.ii/\(∀i,i<ab0 c.ai.ce->gZ c.dl.am (c.ai.ce[i]!).2)/\bj c.dl.am c.ci c.ae.bv c.ai.ce c.ii:=
 ⟨fun h=>⟨h.wI,h.qL,h.DD,h.sG,h.K1,h.hd,h.known,h.JE⟩,fun ⟨h1,h2,h3,h4,h5,h6,h7,h8⟩=>⟨h1,fit.oN,h2,h3,h4,h5,h6,h7,h8⟩⟩
theorem cy.fit {c:aK} (ok:cy c):xX c:=⟨ok.oN,ok.sG.fit,by have:=ok.hd;have:=ok.sG.bd;omega⟩
theorem GG {c:aK} {n0 n1 n2 n3:Int}:
 ax dd (4,0,c.ci.1,c.ci.2,c.dl.am,c.ai.aL,c.ai.ce,c.ae.af.aC,c.ae.af.be,c.ae.af.bi,c.ae.bv,c.ae.ay,c.ii,[n0,n1,n2,n3])=
  if n0=0/\n1=0/\n2=0/\n3=0 then ax dd (4,4,c.ci.1,c.ci.2,c.dl.am,c.ai.aL,c.ai.ce,c.ae.af.aC,c.ae.af.be,c.ae.af.bi,c.ae.bv,c.ae.ay,c.ii,[n0,n1,n2,n3]) else ab1 8:=by
 have st: ∀(i:Nat) (n:Int),i<4->aA [n0,n1,n2,n3] (i:Int)=ab1 n->ax dd (4,(i:Int),c.ci.1,c.ci.2,c.dl.am,c.ai.aL,c.ai.ce,c.ae.af.aC,c.ae.af.be,c.ae.af.bi,c.ae.bv,c.ae.ay,c.ii,[n0,n1,n2,n3])=
  if n=0 then ax dd (4,((i+1:Nat):Int),c.ci.1,c.ci.2,c.dl.am,c.ai.aL,c.ai.ce,c.ae.af.aC,c.ae.af.be,c.ae.af.bi,c.ae.bv,c.ae.ay,c.ii,[n0,n1,n2,n3]) else ab1 8:=by
  intro i n hi hg;have e1:ab4 ((i:Int)<4)=ab2:=aH (by omega)
  by_cases h:n=0
  · rw [ol h]
    refine aT ?_;unfold dd;simp only [e1,ls,hg,au,dv h,lw,aV (show i<1000000000 by omega)]
  rw [pi h]
  refine aF ?_;unfold dd;simp only [e1,ls,hg,au,fH h]
 have s0:=st 0 n0 (by omega) rfl;have s1:=st 1 n1 (by omega) rfl;have s2:=st 2 n2 (by omega) rfl;have s3:=st 3 n3 (by omega) rfl;have c0:((0:Nat):Int)=0:=rfl;have c4:((3+1:Nat):Int)=4:=rfl;rw [c0] at s0;rw [c4] at s3;rw [s0]
 by_cases h0:n0=0
 · rw [ol h0,show ((0+1:Nat):Int)=((1:Nat):Int) from rfl,s1]
   by_cases h1:n1=0
   · rw [ol h1,show ((1+1:Nat):Int)=((2:Nat):Int) from rfl,s2]
     by_cases h2:n2=0
     · rw [ol h2,show ((2+1:Nat):Int)=((3:Nat):Int) from rfl,s3]
       by_cases h3:n3=0
       · rw [ol h3,ol ⟨h0,h1,h2,h3⟩]
       rw [pi h3,pi (fun h=>h3 h.2.2.2)]
     rw [pi h2,pi (fun h=>h2 h.2.2.1)]
   rw [pi h1,pi (fun h=>h1 h.2.1)]
 rw [pi h0,pi (fun h=>h0 h.1)]
theorem oO {c:aK} (fit:xX c):eJ c=ab1 (if cy c then 0 else 8):=by
 unfold eJ;rw [dU fit.oN,iY,vH,nu _ fit.ag];simp only [au];have h4:Int.ofNat [if bT c.ci then (0:Int) else 8,ik c.dl.am,if eD c.ai then (0:Int) else 8,if iA c.ae then (0:Int) else 8].length=4:=rfl;rw [h4,GG];have z: ∀(p:Prop) [Decidable p],(if p then (0:Int) else 8)=0↔p:=fun p _=>by by_cases h:p<;>simp [h]
 simp only [z,iX];have f1:=cy.iff fit
 by_cases ok:bT c.ci/\cj c.dl.am/\eD c.ai/\iA c.ae
 case neg=>rw [pi ok,pi (c:=cy c) (fun h=>ok ⟨h.wI,h.qL,h.DD,h.sG⟩)]
 obtain ⟨wI,qL,DD,sG⟩:=ok;rw [ol ⟨wI,qL,DD,sG⟩]
 by_cases w2:(ab0 c.ae.ay)=200
 case neg=>rw [pi (c:=cy c) (fun h=>w2 h.K1)];refine aF ?_;unfold dd;simp only [aB,aD (show¬(4:Int)<4 by omega),lw,fH (show¬((ab0 c.ae.ay):Int)=200 by omega),ls]
 by_cases hd:(ab0 c.ae.bv)=ab0 c.ii
 case neg=>rw [pi (c:=cy c) (fun h=>hd h.hd)];refine aF ?_;unfold dd;simp only [aB,aD (show¬(4:Int)<4 by omega),lw,dv (show ((ab0 c.ae.ay):Int)=200 by omega),fH (show¬((ab0 c.ae.bv):Int)=((ab0 c.ii):Int) by omega),ls]
 have run:=GF wI fit.oN qL DD sG w2 (ab0 c.ai.ce) 0 c.ii (by omega) (by omega) fit.du;rw [List.drop_zero] at run;have same:((∀j,0<=j->j<ab0 c.ai.ce->gZ c.dl.am (c.ai.ce[j]!).2)/\bj c.dl.am c.ci c.ae.bv c.ai.ce c.ii)↔cy c:=by
  rw [f1];constructor
  · rintro ⟨h1,h2⟩;exact ⟨wI,qL,DD,sG,w2,hd,fun i hi=>h1 i (by omega) hi,h2⟩
  rintro ⟨_,_,_,_,_,_,h1,h2⟩;exact ⟨fun j _ hj=>h1 j hj,h2⟩
 simp only [same] at run;refine aF ?_;unfold dd;simp only [aB,aD (show¬(4:Int)<4 by omega),lw,dv (show ((ab0 c.ae.ay):Int)=200 by omega),dv (show ((ab0 c.ae.bv):Int)=((ab0 c.ii):Int) by omega)];exact run
section
variable {l : List Pt} {t : Int × Int}
theorem bj.mb {H:List Ev} {x:yg} {cs ds:List yg} (h:(dw l x.2 t).2=ab2):bj l t H (x::cs) ds↔ ∃d FQ,ds=d::FQ/\d.1=x.1/\(((dw l x.2 t).1.1,(dw l x.2 t).1.2,x.1,d.2):Ev)∈H/\bj l t H cs FQ:=
 ⟨fun k=>k.1 h,fun k=>⟨fun _=>k,fun k'=>(by rw [h] at k';cases k')⟩⟩
theorem bj.jP {H:List Ev} {x:yg} {cs ds:List yg} (h:(dw l x.2 t).2=ab3):bj l t H (x::cs) ds↔bj l t H cs ds:=
 ⟨fun k=>k.2 h,fun k=>⟨fun k'=>(by rw [h] at k';cases k'),fun _=>k⟩⟩
theorem bj.mono {H H':List Ev}: ∀{cs ds:List yg},(∀x∈cs,∀e:Ev,e.num=x.1->e∈H->e∈H')->bj l t H cs ds->bj l t H' cs ds
 | [],_,_,h=>h
 |x::cs,ds,hm,h=>by
  have ye: ∀y∈cs,∀e:Ev,e.num=y.1->e∈H->e∈H':=fun y hy=>hm y (by simp [hy])
  cases hx:(dw l x.2 t).2 with
  |true=>rw [bj.mb hx] at h ⊢;obtain ⟨d,FQ,h1,h2,h3,h4⟩:=h;exact ⟨d,FQ,h1,h2,hm x (by simp) _ rfl h3,bj.mono ye h4⟩
  |false=>rw [bj.jP hx] at h ⊢;exact bj.mono ye h
theorem bj.ii {H:List Ev}: ∀{cs ds:List yg},bj l t H cs ds-> ∀d∈ds,∃x∈cs,d.1=x.1/\(dw l x.2 t).2=ab2/\(((dw l x.2 t).1.1,(dw l x.2 t).1.2,x.1,d.2):Ev)∈H
 | [],ds,h,d,hd=>by have:ds=[]:=h;subst this;cases hd
 |x::cs,ds,h,d,hd=>by
  cases hx:(dw l x.2 t).2 with
  |true=>
   rw [bj.mb hx] at h;obtain ⟨e,FQ,h1,h2,h3,h4⟩:=h;subst h1;rcases List.mem_cons.1 hd with rfl|hd
   · exact ⟨x,by simp,h2,hx,h3⟩
   obtain ⟨y,hy,k⟩:=bj.ii h4 d hd
   exact ⟨y,by simp [hy],k⟩
  |false=>rw [bj.jP hx] at h;obtain ⟨y,hy,k⟩:=bj.ii h d hd;exact ⟨y,by simp [hy],k⟩
def Up (cs:List yg):Prop:=cs.Pairwise fun x y=>x.1<y.1
theorem EJ {cs:List yg}:Up cs↔ ∀i j,i<j->j<ab0 cs->(cs[i]!).1<(cs[j]!).1:=by
 unfold Up;rw [List.pairwise_iff_getElem];constructor
 · intro h i j lr hj
   rw [getElem!_pos cs i (by omega),getElem!_pos cs j hj];exact h i j (by omega) hj lr
 intro h i j hi hj lr
 have:=h i j lr hj
 rwa [getElem!_pos cs i hi,getElem!_pos cs j hj] at this
theorem bj.up {H:List Ev}: ∀{cs ds:List yg},bj l t H cs ds->Up cs->Up ds
 | [],ds,h,_=>by have:ds=[]:=h;subst this;exact List.Pairwise.nil
 |x::cs,ds,h,hu=>by
  have yd:=If.1 hu;cases hx:(dw l x.2 t).2 with
  |true=>rw [bj.mb hx] at h;obtain ⟨e,FQ,h1,h2,h3,h4⟩:=h;subst h1;refine If.2 ⟨fun d hd=>?_,bj.up h4 yd.2⟩;obtain ⟨y,hy,k,_⟩:=bj.ii h4 d hd;have:=yd.1 y hy;omega
  |false=>rw [bj.jP hx] at h;exact bj.up h yd.2
theorem bj.snoc {H:List Ev}: ∀{cs ds:List yg} {x:yg},bj l t H cs ds->((dw l x.2 t).2=ab3->bj l t H (cs++[x]) ds)/\
 (∀d:yg,(dw l x.2 t).2=ab2->d.1=x.1->(((dw l x.2 t).1.1,(dw l x.2 t).1.2,x.1,d.2):Ev)∈H->bj l t H (cs++[x]) (ds++[d]))
 | [],ds,x,h=>by have:ds=[]:=h;subst this;refine ⟨fun hx=>(bj.jP hx).2 rfl,fun d hx h1 h2=>(bj.mb hx).2 ⟨d,[],rfl,h1,h2,rfl⟩⟩
 |y::cs,ds,x,h=>by
  cases hy:(dw l y.2 t).2 with
  |true=>rw [bj.mb hy] at h;obtain ⟨e,FQ,h1,h2,h3,h4⟩:=h;subst h1;have ih:=bj.snoc (x:=x) h4;refine ⟨fun hx=>(bj.mb hy).2 ⟨e,FQ,rfl,h2,h3,ih.1 hx⟩,fun d hx k1 k2=>(bj.mb hy).2 ⟨e,FQ++[d],rfl,h2,h3,ih.2 d hx k1 k2⟩⟩
  |false=>rw [bj.jP hy] at h;have ih:=bj.snoc (x:=x) h;exact ⟨fun hx=>(bj.jP hy).2 (ih.1 hx),fun d hx k1 k2=>(bj.jP hy).2 (ih.2 d hx k1 k2)⟩
end
theorem GH {H:List Ev} {ns:List Int} (hd:ns.Nodup) (hl:(ab0 H)<=ab0 ns) (he: ∀n∈ns,∃e∈H,Ev.num e=n): ∀e∈H,Ev.num e∈ns:=by
 have pos: ∀n,n∈ns-> ∃w,w<ab0 H/\Ev.num H[w]! =n:=fun n hn=>by obtain ⟨e,he,h2⟩:=he n hn;obtain ⟨w,hw,rfl⟩:=bQ.1 he;exact ⟨w,hw,h2⟩
 let f:Int->Nat:=fun n=>if h: ∃w,w<ab0 H/\Ev.num H[w]! =n then h.choose else 0
 have hf: ∀n∈ns,f n<ab0 H/\Ev.num H[f n]! =n:=fun n hn=>by have h:=pos n hn;show (if h: ∃w,w<ab0 H/\Ev.num H[w]! =n then h.choose else 0)<_/\Ev.num H[(if h: ∃w,w<ab0 H/\Ev.num H[w]! =n then h.choose else 0)]! =n;rw [dif_pos h];exact h.choose_spec
 have full:=zN (n:=ab0 H) (l:=ns.map f) (uS hd fun x hx y hy h=>by
  have h1:=(hf x hx).2;have h2:=(hf y hy).2;rw [h] at h1;omega) (fun x hx=>by
  obtain ⟨n,hn,rfl⟩:=ut.1 hx;exact (hf n hn).1) (by rw [UV];exact hl)
 intro e hm;obtain ⟨w,hw,rfl⟩:=bQ.1 hm;obtain ⟨n,hn,h⟩:=ut.1 (full w hw);rw [<- h,(hf n hn).2];exact hn
theorem NT {cs:List yg} (h:Up cs):(cs.map fun x=>x.1).Nodup:=by
 refine uS ?_ ?_
 · unfold Up at h
   exact h.imp fun Fj he=>by rw [he] at Fj;omega
 intro x hx y hy he
 obtain ⟨i,hi,rfl⟩:=bQ.1 hx;obtain ⟨j,hj,rfl⟩:=bQ.1 hy;rcases ww i j with h1|h1|h1
 · have:=EJ.1 h i j h1 hj;omega
 · rw [h1]
 have:=EJ.1 h j i h1 hi;omega
theorem cy.X9 {c:aK} (ok:cy c):Up c.ai.ce:=EJ.2 ok.DD.up
theorem cy.X' {c:aK} (ok:cy c):Up c.ii:=ok.JE.up ok.X9
theorem cy.Is {c:aK} (ok:cy c): ∀e∈c.ae.bv,∃d∈c.ii,d.1=Ev.num e:=by have:=GH (H:=c.ae.bv) (NT ok.X') (by rw [UV,ok.hd];exact rc _) (fun n hn=>by obtain ⟨d,hd,rfl⟩:=ut.1 hn;obtain ⟨x,hx,h1,h2,h3⟩:=ok.JE.ii d hd;exact ⟨_,h3,h1.symm⟩);intro e he;obtain ⟨d,hd,h⟩:=ut.1 (this e he);exact ⟨d,hd,h⟩
end Go.Proofs.YtmndepnolpbnpaaGreat
