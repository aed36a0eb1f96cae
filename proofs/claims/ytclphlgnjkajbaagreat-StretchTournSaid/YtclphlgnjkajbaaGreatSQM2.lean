/- Plain laws (2). -/
import Derived.Test.YtclphlgnjkajbaaGreatSQM1
open List renaming length_set->v6,length_take->EQ,take_of_length_le->If,take_append_of_le_length->IR,mem_map->NE,append_assoc->PP,length_append->aah,set_eq_of_length_le->aax,length_drop->aaz,drop_eq_nil_of_le->aaG,drop_eq_nil_iff->ac1,filter_eq_self->ac2,mem_cons->acZ,getElem?_take->ad2,filter_append->ad8,pairwise_cons->adc,getElem?_set->ae1,length_cons->ae6,isEmpty_iff->ae7,drop_length->ae8,length_nil->aeb,append_nil->aeg,length_map->aep,replicate->aeq,take_take->aer,set_comm->aes,length->aez
open Classical renaming not_not->ww,not_forall->WF,not_imp->aau
open Bool renaming not_true->AC,not_false->ac0,eq_iff_iff->aeh,and_self->aet,true->aeB,false->aeC
open Nat renaming le_refl->Do,ble_eq_true_of_le->UV,lt_trichotomy->aav,sub_self->aaC,eq_of_beq_eq_true->aaS,le_trans->aeu,beq->aev,min_self->aew
open Int renaming toNat_natCast->M2,lt_irrefl->acl
open Prod renaming ext->aal,fst->aex,snd->aey
open Iff renaming rfl->aaB
open Option renaming some->aeA
open Decidable renaming decide->aeD
namespace Go.Proofs.YtclphlgnjkajbaaGreat
open Go.Vm Classical
theorem IQ (a:aF) (fit:zf a) (so:fF a.ai) (wl:(aez a.aq)=aez a.ai.aD):
 ar jX (a.aq,((aez a.aq):Int),0,a.ai.aD,a.ai.be,a.ai.bi,a.bv,a.aq)=aeA (if (∀i,i<aez a.ai.aD->P2 a i)/\(∀k,k<aez a.bv->Gj a.bv k) then 0 else 8):=by
 have hu:=so.ul;have hn:=so.n2;have hh:=fit.hp;have Oy:=IP a.bv a.ai.aD a.ai.bi a.aq a.ai.be fit.hp fit.Te;have key:=ff (body:=jX) (fun i=>(a.aq,((aez a.aq):Int),(i:Int),a.ai.aD,a.ai.be,a.ai.bi,a.bv,a.aq)) (aez a.aq) (fun i=> ¬P2 a i) (r:=8) (e:=if (∀k,k<aez a.bv->Gj a.bv k) then 0 else 8) (fun i hi=>by
  have e1:aeD ((i:Int)<((aez a.aq):Int))=aeB:=aG (by omega);unfold jX;simp only [aA,e1,lw,au a.aq i hi,au a.ai.be i (by omega),au a.ai.aD i (by omega),aj,ba (show i<1000000000 by omega)];unfold P2;generalize a.aq[i]! =w at*;cases hb:a.ai.be[i]! with
  |false=>
   simp only [ac0,lw]
   by_cases hw:w= -1
   · rw [cS hw]
     exact ⟨fun h=>absurd ⟨fun h=>(by cases h),fun _=>hw⟩ h,fun _=>rfl⟩
   rw [dZ hw]
   exact ⟨fun _=>rfl,fun h=>absurd ((ww.1 h).2 trivial) hw⟩
  |true=>
   simp only [AC,pp]
   by_cases b1:w<0
   · rw [aG b1]
     exact ⟨fun _=>rfl,fun h=>absurd ((ww.1 h).1 trivial).1 (by omega)⟩
   by_cases b2:((aez a.bv):Int)<=w
   · rw [aE b1,aG b2]
     exact ⟨fun _=>rfl,fun h=>absurd ((ww.1 h).1 trivial).2.1 (by omega)⟩
   rw [aE b1,aE b2];simp only [pp,eG (l:=a.bv) (i:=w) (by omega) (by omega),aj]
   by_cases b3:(a.bv[w.toNat]!).2.2.2.1=i
   · by_cases b4:(a.bv[w.toNat]!).2.2.2.2=a.ai.aD[i]!
     · rw [eT b3,eT b4]
       exact ⟨fun h=>absurd ⟨fun _=>⟨by omega,by omega,b3,b4⟩,fun h=>(by cases h)⟩ h,fun _=>rfl⟩
     rw [eT b3,eu b4]
     exact ⟨fun _=>rfl,fun h=>absurd ((ww.1 h).1 trivial).2.2.2 b4⟩
   rw [eu b3]
   exact ⟨fun _=>rfl,fun h=>absurd ((ww.1 h).1 trivial).2.2.1 b3⟩) (by
  unfold jX;have:aeD (((aez a.aq):Int)<((aez a.aq):Int))=aeC:=aE (by omega);simp only [aA,this,pp]
  by_cases hx: ∀k,k<aez a.bv->Gj a.bv k
  · rw [rc hx];exact Oy.1 hx
  rw [ut hx];exact Oy.2 hx)
 by_cases hw: ∀i,i<aez a.ai.aD->P2 a i
 · refine (key.2 fun i hi=>ww.2 (hw i (by omega))).trans ?_
   by_cases hx: ∀k,k<aez a.bv->Gj a.bv k
   · rw [rc hx,rc ⟨hw,hx⟩]
   rw [ut hx,ut (fun h=>hx h.2)]
 rw [ut (fun h=>hw h.1)]
 obtain ⟨i,h⟩:=WF.1 hw;obtain ⟨hi,hx⟩:=aau.1 h;exact key.1 ⟨i,by omega,hx⟩
theorem jY (a:aF) (fit:zf a):jH a=aeA (if fu a then 0 else 8):=by
 have hh:=fit.hp;unfold jH;rw [tu _ fit.fr];simp only [aA]
 by_cases so:fF a.ai
 case neg=>rw [ut so,ut (fun h=>so h.so)];rfl
 have hu:=so.ul;have hn:=so.n2;have hf:=so.fl;rw [rc so];simp only [aj,show ((0:Int) !=0)=aeC from rfl,pp]
 by_cases wl:(aez a.aq)=aez a.ai.aD
 case neg=>rw [dZ (by omega),ut (fun h=>wl h.wl)];rfl
 rw [cS (by omega)];have e:aa .i64 (((aez a.ai.be):Int) - ((aez a.ai.bi):Int))=((aez a.ai.aD-(aez a.ai.bi):Nat):Int):=by rw [wi];omega
 rw [e]
 by_cases hl:(aez a.bv)+aez a.ai.bi=aez a.ai.aD
 case neg=>rw [dZ (by omega),ut (fun h=>hl h.hl)];rfl
 rw [cS (by omega)];simp only [pp];rw [IQ a fit so wl]
 by_cases ok:fu a
 · rw [rc ok,rc ok.to]
 rw [ut ok,ut]
 intro h;exact ok (fu.of fit so wl hl h.1 h.2)
theorem zg {l:List Ev} {n:Nat} {e:Ev} (hn:n<=aez l):e∈l.take n↔ ∃w,w<n/\l[w]! =e:=by
 rw [cC];constructor
 · rintro ⟨i,h1,_,h3⟩;exact ⟨i,h1,h3⟩
 rintro ⟨i,h1,h3⟩;exact ⟨i,h1,by omega,h3⟩
theorem ZU {s:aS} (so:fF s) {n:Nat} {H:List Ev} {W:List Int} (E:Ev->Prop) (hn:n<=aez H) (wl:(aez W)=aez s.aD) (hl:n+aez s.bi=aez s.aD)
 (ix: ∀w,w<n->0<=(H[w]!).ix/\(H[w]!).ix<aez W/\W[(H[w]!).n]! =(w:Int)) (mem: ∀e,(∃w,w<n/\H[w]! =e)↔E e) (ord: ∀k,0<k->k<n-> ¬less H[k]! H[(k-1) / 2]!)
 (ue: ∀i,i<aez s.aD->s.be[i]! =aeB-> ∃e:Ev,E e/\e.ix=i/\e.2.2.2.2=s.aD[i]!) (un: ∀i,i<aez s.aD->s.be[i]! =aeC->W[i]! = -1)
 (ev: ∀e,E e->oC e) (xK: ∀e f:Ev,E e->E f->e.num=f.num->e.ix=f.ix):fu ⟨s,H.take n,W⟩:=by
 have len:(H.take n).length=n:=by rw [EQ];omega
 have cell: ∀w,w<n->(H.take n)[w]! =H[w]!:=fun w hw=>iu hw
 refine ⟨so,wl,by show (H.take n).length+_=_;rw [len];exact hl,?_,un,?_,?_,?_⟩
 · intro i hi hu
   dsimp only at hi hu ⊢;rw [len];obtain ⟨e,he,e1,e2⟩:=ue i hi hu;obtain ⟨w,hw,rfl⟩:=(mem e).2 he;obtain ⟨a1,a2,a3⟩:=ix w hw;have hn':(H[w]!).n=i:=by show ((H[w]!).ix).toNat=i;omega
   rw [hn'] at a3;rw [a3,M2,cell w hw];exact ⟨by omega,by omega,e1,e2⟩
 · intro w hw
   dsimp only at hw ⊢;rw [len] at hw;rw [cell w hw];exact ev _ ((mem _).1 ⟨w,hw,rfl⟩)
 · intro v w hv hw
   dsimp only at hw ⊢;rw [len] at hw;rw [cell v (by omega),cell w hw];intro hc;have:=xK _ _ ((mem _).1 ⟨v,by omega,rfl⟩) ((mem _).1 ⟨w,hw,rfl⟩) hc;obtain ⟨a1,a2,a3⟩:=ix v (by omega);obtain ⟨b1,b2,b3⟩:=ix w hw;have hn':(H[v]!).n=(H[w]!).n:=by show ((H[v]!).ix).toNat=((H[w]!).ix).toNat;rw [this]
   rw [hn'] at a3;omega
 intro k k0 hk
 dsimp only at hk ⊢;rw [len] at hk;rw [cell k hk,cell _ (by omega)];exact ord k k0 hk
theorem tC {s:aS} (so:fF s) {n:Nat} {x:Ev} {M:Ev->Prop} {K:Nat->Prop} {H H1:List Ev} {W W1:List Int} (st:yD n x M K H W H1 W1) (hn:n<=aez H) (wl:(aez W)=aez s.aD) (hl:n+aez s.bi=aez s.aD)
 (ue: ∀i,i<aez s.aD->s.be[i]! =aeB-> ∃e:Ev,(e=x\/M e)/\e.ix=i/\e.2.2.2.2=s.aD[i]!) (un: ∀i,i<aez s.aD->s.be[i]! =aeC->K i/\W[i]! = -1)
 (ev: ∀e,(e=x\/M e)->oC e) (xK: ∀e f:Ev,(e=x\/M e)->(f=x\/M f)->e.num=f.num->e.ix=f.ix):fu ⟨s,H1.take n,W1⟩:=by
 refine ZU so (fun e=>e=x\/M e) (by rw [st.hl];exact hn) (by rw [st.wl];exact wl) hl (by rw [st.wl];exact st.ix) st.mem st.ord ue ?_ ev xK;intro i hi hu;rw [st.out i (un i hi hu).1];exact (un i hi hu).2
theorem fu.bd {a:aF} (ok:fu a):(aez a.bv)<=200/\aez a.aq<=200:=by have:=ok.hl;have:=ok.wl;have:=ok.so.n2;omega
theorem fu.cells {a:aF} (ok:fu a):lf (aez a.bv) a.bv a.aq:=by have:=ok.bd;refine ⟨Do _,by omega,fun w hw=>?_⟩;obtain ⟨b1,b2,b3,b4,b5⟩:=ok.back hw;exact ⟨ok.ev w hw,b1,by rw [ok.wl];exact b2⟩
theorem fu.inj {a:aF} (ok:fu a) {v w:Nat} (hv:v<aez a.bv) (hw:w<aez a.bv) (h:Ev.ix a.bv[v]! =Ev.ix a.bv[w]!):v=w:=by
 have h1:=(ok.back hv).2.2.2.2;have h2:=(ok.back hw).2.2.2.2;have:Ev.n a.bv[v]! =Ev.n a.bv[w]!:=by show (Ev.ix a.bv[v]!).toNat=(Ev.ix a.bv[w]!).toNat;rw [h]
 rw [this] at h1;omega
theorem fu.KJ {a:aF} (ok:fu a) {i k:Nat} (i0:0<i) (k0:0<k) (hk:k<aez a.bv) (hp:(k-1) / 2=i): ¬less a.bv[k]! a.bv[(i-1) / 2]!:=by have h1:=ok.ord k k0 hk;rw [hp] at h1;exact yC (ok.ev _ (by omega)).den (ok.ev _ (by omega)).den (ok.ev _ hk).den (ok.ord i i0 (by omega)) h1
theorem fu.handle {a:aF} (ok:fu a) {i:Nat} (hi:i<aez a.bv):Ha a.ai (a.bv[i]!).2.2.2/\a.aq[((a.bv[i]!).2.2.2.1).toNat]! =(i:Int):=by obtain ⟨b1,b2,b3,b4,b5⟩:=ok.back hi;exact ⟨⟨b1,b2,b3,b4⟩,b5⟩
theorem fu.DC {a:aF} (ok:fu a) {i:Nat} (hi:i<aez a.ai.aD) (hu:a.ai.be[i]! =aeB): ∃w,w<aez a.bv/\Ev.ix a.bv[w]! =i/\(a.bv[w]!).2.2.2.2=a.ai.aD[i]!:=by obtain ⟨f1,f2,f3,f4⟩:=ok.fwd i hi hu;exact ⟨(a.aq[i]!).toNat,by omega,f3,f4⟩
theorem fu.Hf {a:aF} (ok:fu a) {i:Nat} (hu:a.ai.be[i]! =aeC) {w:Nat} (hw:w<aez a.bv):Ev.n a.bv[w]!≠i:=by intro h;have:=(ok.back hw).2.2.1;rw [h,hu] at this;cases this
theorem fu.xK {a:aF} (ok:fu a) {v w:Nat} (hv:v<aez a.bv) (hw:w<aez a.bv) (h:Ev.num a.bv[v]! =Ev.num a.bv[w]!):v=w:=by
 rcases aav v w with h1|h1|h1
 · exact absurd h (ok.nd v w h1 hw)
 · exact h1
 exact absurd h.symm (ok.nd w v h1 hv)
theorem eC {α:Type} [Inhabited α] {l:List α} {k:Nat} {v:α} (h:l[k]! =v):l.set k v=l:=by
 by_cases hk:k<aez l
 · apply rh (by rw [v6])
   intro i hi;rw [aT];split
   · rename_i e;rw [e.1];exact h.symm
   rfl
 exact aax (by omega)
def oD (x:Ev) (t:Int×Int):Ev:=(t.1,t.2,x.2.2)
noncomputable def jc (a:aF) (i:Nat) (t:Int×Int):aF:=⟨a.ai,(cu (aez a.bv) (oD a.bv[i]! t) i a.bv a.aq).1,(cu (aez a.bv) (oD a.bv[i]! t) i a.bv a.aq).2⟩
theorem Fo {a:aF} (ok:fu a) {i:Nat} (hi:i<aez a.bv) {t:Int×Int} (ht:bS t) (h64:nQ t):oC (oD a.bv[i]! t):=by have:=ok.ev i hi;exact ⟨ht,h64,this.2.2.1,this.2.2.2⟩
theorem Fp {a:aF} (ok:fu a) {i:Nat} (hi:i<aez a.bv) (t:Int×Int):zZ (aez a.bv) (oD a.bv[i]! t) (fun e=> ∃w,w<aez a.bv/\w≠i/\a.bv[w]! =e) a.bv a.aq i:=by obtain ⟨b1,b2,b3,b4,b5⟩:=ok.back hi;refine ⟨hi,Do _,fun w hw IL=>?_,b1,by rw [ok.wl];exact b2,fun e=>aaB⟩;obtain ⟨c1,c2,c3,c4,c5⟩:=ok.back hw;exact ⟨c1,by rw [ok.wl];exact c2,c5,fun h=>IL (ok.inj hw hi h)⟩
theorem Hg {a:aF} (ok:fu a) (i:Nat):Ord (aez a.bv) a.bv i:=
 ⟨fun w hw=>(ok.ev w hw).den,fun k k0 hk _ _=>ok.ord k k0 hk,fun i0 _k k0 hk hp=>ok.KJ i0 k0 hk hp⟩
theorem lX {a:aF} (ok:fu a) {i:Nat} (hi:i<aez a.bv) {t:Int×Int} (ht:bS t):
 yD (aez a.bv) (oD a.bv[i]! t) (fun e=> ∃w,w<aez a.bv/\w≠i/\a.bv[w]! =e) (fun k=>k≠Ev.n (oD a.bv[i]! t)/\ ∀w,w<aez a.bv->w≠i->Ev.n a.bv[w]!≠k) a.bv a.aq (jc a i t).bv (jc a i t).aq:=
 xI (x:=oD a.bv[i]! t) ht.1 (Fp ok hi t) (Hg ok i)
theorem Cj {a:aF} (ok:fu a) {i:Nat} (hi:i<aez a.bv) {t:Int×Int} (ht:bS t):(jc a i t).bv.length=aez a.bv/\(jc a i t).aq.length=(aez a.aq):=
 ⟨(lX ok hi ht).hl,(lX ok hi ht).wl⟩
theorem P3 {a:aF} (ok:fu a) {i:Nat} (hi:i<aez a.bv) {t:Int×Int} (ht:bS t) (e:Ev):e∈(jc a i t).bv↔(e=oD a.bv[i]! t\/(e∈a.bv/\e≠a.bv[i]!)):=by
 have st:=lX ok hi ht;have h1:e∈(jc a i t).bv↔ ∃w,w<aez a.bv/\((jc a i t).bv)[w]! =e:=by rw [aQ,(Cj ok hi ht).1]
 rw [h1];refine (st.mem e).trans ?_;constructor
 · rintro (h|⟨w,hw,IL,rfl⟩)
   · exact .inl h
   exact .inr ⟨aX hw,fun h=>IL (ok.inj hw hi (by rw [h]))⟩
 rintro (h|⟨h,dK⟩)
 · exact .inl h
 obtain ⟨w,hw,rfl⟩:=aQ.1 h
 exact .inr ⟨w,hw,fun h=>dK (by rw [h]),rfl⟩
theorem Tf {a:aF} (ok:fu a) {i:Nat} (hi:i<aez a.bv) {t:Int×Int} (ht:bS t) (h64:nQ t):fu (jc a i t):=by
 have st:=lX ok hi ht;have len:=(Cj ok hi ht).1;have hx:Ev.ix (oD a.bv[i]! t)=Ev.ix a.bv[i]!:=rfl;have key:=tC ok.so st (Do _) ok.wl ok.hl (fun j hj hu=>by
  obtain ⟨w,hw,e1,e2⟩:=ok.DC hj hu
  by_cases e:w=i
  · subst e;exact ⟨oD a.bv[w]! t,.inl rfl,e1,e2⟩
  · exact ⟨a.bv[w]!,.inr ⟨w,hw,e,rfl⟩,e1,e2⟩) (fun j hj hu=>⟨⟨(ok.Hf hu hi).symm,fun w hw _=>ok.Hf hu hw⟩,ok.un j hj hu⟩) (by
  rintro e (rfl|⟨w,hw,_,rfl⟩)
  · exact Fo ok hi ht h64
  · exact ok.ev w hw) (by
  rintro e f (rfl|⟨v,hv,hvi,rfl⟩) (rfl|⟨w,hw,IL,rfl⟩) he
  · rfl
  · exact absurd (ok.xK hi hw he).symm IL
  · exact absurd (ok.xK hv hi he) hvi
  rw [ok.xK hv hw he])
 have:(jc a i t).bv.take (aez a.bv)=(jc a i t).bv:=If (by rw [len];exact Do _);show fu ⟨a.ai,(jc a i t).bv,(jc a i t).aq⟩;rw [<- this];exact key
theorem KO {a:aF} (ok:fu a) (fit:zf a) {h:Int×Int} {i:Nat} (hi:i<aez a.bv) (hh:(a.bv[i]!).2.2.2=h):nv a h=aeA ((i:Int),0):=by
 obtain ⟨lv,wv⟩:=ok.handle hi;rw [hh] at lv;unfold nv;rw [jY a fit,rc ok];simp only [aj,show ((0:Int) !=0)=aeC from rfl,pp,CX ok.so,aG lv,AC];have:=lv.2.1;have:=lv.1;have:=ok.wl;have e:(a.bv[i]!).2.2.2.1=h.1:=by rw [hh]
 rw [eG (l:=a.aq) lv.1 (by omega),<- e,wv];rfl
theorem De {a:aF} (ok:fu a) (fit:zf a) {h t:Int×Int} {i:Nat} (hi:i<aez a.bv) (hh:(a.bv[i]!).2.2.2=h) (ht:bS t) (h64:nQ t):qt a h t=aeA (jc a i t,0):=by
 have bd:=ok.bd;obtain ⟨b1,b2,b3,b4,b5⟩:=ok.back hi;unfold qt;rw [jY a fit,rc ok,eH h64,rc ht];have pl:=KO ok fit hi hh;have se:=Fk (u:=a.ai.aD) (us:=a.ai.be) (fr:=a.ai.bi) (Fo ok hi ht h64) (show 0<=Ev.ix (oD a.bv[i]! t) from b1) ok.cells rfl hi (show Ev.ix (oD a.bv[i]! t)<(aez a.aq) by rw [ok.wl];exact b2);have se':ew (a.ai.aD,a.ai.be,a.ai.bi,(i:Int),t.1,t.2,(a.bv[i]!).2.2.1,(a.bv[i]!).2.2.2.1,(a.bv[i]!).2.2.2.2,a.bv,a.aq)=aeA (cu (aez a.bv) (oD a.bv[i]! t) i a.bv a.aq):=se;simp only [aj,gt_iff_lt,acl,if_false,show ((0:Int) !=0)=aeC from rfl,pp,pl,aW (show (aez a.bv)<=1048576 by omega),aW (show (aez a.aq)<=1048576 by omega),au a.bv i hi,se'];rfl
theorem oW {a:aF} (ok:fu a):ot a=aeA a:=by have bd:=ok.bd;unfold ot;simp only [tz ok.so,aj,aW (show (aez a.bv)<=1048576 by omega),aW (show (aez a.aq)<=1048576 by omega)]
theorem Ck {a:aF} (ok:fu a) {h t:Int×Int} {i:Nat} (hi:i<aez a.bv) (hh:(a.bv[i]!).2.2.2=h) (ht:bS t) (h64:nQ t):tp a h t=aeA (jc a i t):=by
 have bd:=ok.bd;obtain ⟨b1,b2,b3,b4,b5⟩:=ok.back hi;obtain ⟨lv,wv⟩:=ok.handle hi;have hx:=Fo ok hi ht h64;have x1:Ev.ix (oD a.bv[i]! t)<(aez a.aq):=by rw [ok.wl];exact b2
 have st:=lX ok hi ht;obtain ⟨j,H1,W1,e1,e3,e4,e5,e6,e7,e8,e9,e10⟩:=Dy (x:=oD a.bv[i]! t) ht.1 i a.bv a.aq (Fp ok hi t) (Hg ok i);have w1:a.aq.set (Ev.n (oD a.bv[i]! t)) (i:Int)=a.aq:=eC b5;unfold tp;rw [oW ok];have g1:aH a.aq h.1=aeA (i:Int):=by
  have e:(a.bv[i]!).2.2.2.1=h.1:=by rw [hh]
  rw [eG (l:=a.aq) (i:=h.1) (by rw [<- e];exact b1) (by rw [<- e,ok.wl];exact b2),<- e,wv]
 have u1:q8 ((i:Int),a.ai.aD,a.ai.be,a.ai.bi,a.bv.set i (oD a.bv[i]! t),a.aq)=aeA ((j:Int),a.ai.aD,a.ai.be,a.ai.bi,H1.set j (oD a.bv[i]! t),W1.set (Ev.n (oD a.bv[i]! t)) (j:Int)):=by unfold q8;have:=Tb (c0:=((i:Int),a.ai.aD,a.ai.be,a.ai.bi,a.bv.set i (oD a.bv[i]! t),a.aq)) (u:=a.ai.aD) (us:=a.ai.be) (fr:=a.ai.bi) hx b1 rfl rfl rfl i a.bv a.aq ok.cells hi rfl x1 v6 rfl;rw [w1,e1] at this;exact this
 have M1:lf (aez a.bv) H1 W1:=by refine ⟨by rw [e5];exact Do _,by omega,fun w hw=>?_⟩;exact ⟨(xJ ok.cells hi e1 w hw).1,(xJ ok.cells hi e1 w hw).2.1,by rw [e6];exact (xJ ok.cells hi e1 w hw).2.2⟩
 have d1:ov ((j:Int),a.ai.aD,a.ai.be,a.ai.bi,H1.set j (oD a.bv[i]! t),W1.set (Ev.n (oD a.bv[i]! t)) (j:Int))=aeA (a.ai.aD,a.ai.be,a.ai.bi,(cu (aez a.bv) (oD a.bv[i]! t) i a.bv a.aq).1,(cu (aez a.bv) (oD a.bv[i]! t) i a.bv a.aq).2):=by
  unfold ov;have:=KM (c0:=((j:Int),a.ai.aD,a.ai.be,a.ai.bi,H1.set j (oD a.bv[i]! t),W1.set (Ev.n (oD a.bv[i]! t)) (j:Int))) (n:=aez a.bv) (u:=a.ai.aD) (us:=a.ai.be) (fr:=a.ai.bi) hx b1 rfl rfl rfl (aez a.bv) j H1 W1 (by omega) M1 e3.lt e5 (by rw [e6];exact x1) v6 v6;rw [this];unfold cu;rw [e1]
 have s1:bU a.bv (i:Int) (t.1,t.2,(a.bv[i]!).2.2)=a.bv.set i (oD a.bv[i]! t):=rfl;simp only [aj,g1,au a.bv i hi,s1,u1,d1];rfl
theorem Hh (H:List Ev) (n:Int) (hl:(aez H)<=1000000):cL H n=aeA (aeD (∃w,w<aez H/\(H[w]!).2.2.1=n)):=by
 unfold cL eg;have key:=iG (body:=cK) (fun i=>(H,n,((aez H):Int),(i:Int))) (aez H) (fun i=>(H[i]!).2.2.1=n) (fun i=>(i:Int)) (e:= -1) (fun i hi=>by
  have e1:aeD ((i:Int)<((aez H):Int))=aeB:=aG (by omega);unfold cK tf;simp only [e1,lw,au H i hi,aj,ba (show i<1000000000 by omega)];constructor
  · intro h;rw [eT h];rfl
  · intro h;rw [eu h];rfl) (by
  unfold cK;have:aeD (((aez H):Int)<((aez H):Int))=aeC:=aE (by omega);simp only [this,pp])
 rw [aA]
 by_cases hx: ∃w,w<aez H/\(H[w]!).2.2.1=n
 · obtain ⟨k,h1,h2,h3⟩:=least hx
   have:=key.1 k h1 h2 h3;rw [show ((0:Nat):Int)=0 from rfl] at this;rw [this,aG hx];simp only [aj,aG (show (0:Int)<=(k:Int) by omega)]
 have:=key.2 fun i hi he=>hx ⟨i,hi,he⟩
 rw [show ((0:Nat):Int)=0 from rfl] at this;rw [this,aE hx];rfl
noncomputable def dd (a:aF) (t:Int×Int) (n:Int):Ev:=(t.1,t.2,n,jM a.ai)
noncomputable def jN (a:aF) (t:Int×Int) (n:Int):aF:=
 ⟨fP a.ai,(cu (aez a.bv+1) (dd a t n) (aez a.bv) (a.bv++[dd a t n]) a.aq).1,(cu (aez a.bv+1) (dd a t n) (aez a.bv) (a.bv++[dd a t n]) a.aq).2⟩
section
variable {a : aF} (ok : fu a) (op : uA a.ai) {t : Int × Int} (ht : bS t) (h64 : nQ t) {n : Int} (n0 : 0 <= n) (n1 : n <= 1000000)
include ok op
theorem Bd:Ev.ix (dd a t n)=(cM a.ai:Int)/\cM a.ai<aez a.ai.aD/\a.ai.be[cM a.ai]! =aeC/\aez a.ai.bi=(fP a.ai).bi.length+1:=by
 obtain ⟨h1,h2,h3⟩:=vM ok.so op.1;refine ⟨rfl,h1,?_,?_⟩
 · have:=ok.so.uf (cM a.ai) h1
   cases h:a.ai.be[cM a.ai]! with
   |false=>rfl
   |true=>exact absurd h3 (this.1 h)
 show _=(a.ai.bi.take (aez a.ai.bi-1)).length+1
 have:=op.1;rw [EQ];omega
theorem Hi:zZ (aez a.bv+1) (dd a t n) (fun e=>e∈a.bv) (a.bv++[dd a t n]) a.aq (aez a.bv):=by
 obtain ⟨h1,h2,h3,h4⟩:=Bd (t:=t) (n:=n) ok op;have cell: ∀w,w<aez a.bv->(a.bv++[dd a t n])[w]! =a.bv[w]!:=fun w hw=>bN hw
 refine ⟨by omega,by simp,fun w hw IL=>?_,by rw [h1];omega,by rw [h1,ok.wl];omega,fun e=>?_⟩
 · have Zj:w<(aez a.bv):=by omega
   rw [cell w Zj];obtain ⟨c1,c2,c3,c4,c5⟩:=ok.back Zj;refine ⟨c1,by rw [ok.wl];exact c2,c5,fun h=>?_⟩;rw [h1] at h;have:Ev.n a.bv[w]! =cM a.ai:=by show (Ev.ix a.bv[w]!).toNat=_;omega
   exact ok.Hf h3 Zj this
 constructor
 · rintro ⟨w,hw,IL,rfl⟩
   rw [cell w (by omega)];exact aX (by omega)
 intro h
 obtain ⟨w,hw,rfl⟩:=aQ.1 h;exact ⟨w,by omega,by omega,cell w hw⟩
theorem KP (ht:bS t):Ord (aez a.bv+1) (a.bv++[dd a t n]) (aez a.bv):=by
 have _:=op;have cell: ∀w,w<aez a.bv->(a.bv++[dd a t n])[w]! =a.bv[w]!:=fun w hw=>bN hw
 refine ⟨fun w hw=>?_,fun k k0 hk k1 k2=>?_,fun i0 k k0 hk hp=>by omega⟩
 · by_cases h:w<aez a.bv
   · rw [cell w h];exact (ok.ev w h).den
   have:w=(aez a.bv):=by omega
   subst this;rw [cV (Do _),aaC];exact ht.1
 rw [cell k (by omega),cell _ (by omega)]
 exact ok.ord k k0 (by omega)
theorem vP (ht:bS t):yD (aez a.bv+1) (dd a t n) (fun e=>e∈a.bv) (fun k=>k≠Ev.n (dd a t n)/\ ∀w,w<aez a.bv+1->w≠aez a.bv->Ev.n (a.bv++[dd a t n])[w]!≠k) (a.bv++[dd a t n]) a.aq (jN a t n).bv (jN a t n).aq:=
 xI (x:=dd a t n) ht.1 (Hi ok op) (KP ok op ht)
theorem Be (ht:bS t):(jN a t n).bv.length=aez a.bv+1:=by have:=(vP (n:=n) ok op ht).hl;rw [this];simp
theorem KQ (ht:bS t) (e:Ev):e∈(jN a t n).bv↔(e=dd a t n\/e∈a.bv):=by have st:=vP (n:=n) ok op ht;rw [aQ,Be ok op ht];exact st.mem e
theorem IS (ht:bS t) (h64:nQ t) (n0:0<=n) (n1:n<=1000000):oC (dd a t n):=by have _:=ok;have _:=op;exact ⟨ht,h64,n0,n1⟩
theorem OB (ht:bS t) (h64:nQ t) (n0:0<=n) (n1:n<=1000000) (nn: ∀e∈a.bv,Ev.num e≠n):fu (jN a t n):=by
 have st:=vP (n:=n) ok op ht;have len:=Be (n:=n) ok op ht;obtain ⟨h1,h2,h3,h4⟩:=Bd (t:=t) (n:=n) ok op;have hu:=ok.so.ul;have ul:(fP a.ai).aD.length=(aez a.ai.aD):=v6;have key:=tC (S8 ok.so op) st (by simp) (by rw [ul];exact ok.wl) (by rw [ul];have:=ok.hl;omega) (fun j hj Bs=>by
  rw [ul] at hj;change (a.ai.be.set (cM a.ai) aeB)[j]! =aeB at Bs;rw [aT] at Bs;show∃e:Ev,_/\_/\_=(a.ai.aD.set (cM a.ai) (a.ai.aD[cM a.ai]!+1))[j]!;rw [aT]
  by_cases e:j=cM a.ai
  · rw [rc ⟨e,h2⟩]
    exact ⟨dd a t n,.inl rfl,by rw [h1,e],rfl⟩
  · rw [ut (fun k=>e k.1)]
    rw [ut (fun k=>e k.1)] at Bs;obtain ⟨w,hw,e1,e2⟩:=ok.DC hj Bs;exact ⟨a.bv[w]!,.inr (aX hw),e1,e2⟩) (fun j hj Bs=>by
  rw [ul] at hj;change (a.ai.be.set (cM a.ai) aeB)[j]! =aeC at Bs;rw [aT] at Bs
  by_cases e:j=cM a.ai
  · rw [rc ⟨e,by omega⟩] at Bs;cases Bs
  · rw [ut (fun k=>e k.1)] at Bs
    refine ⟨⟨?_,fun w hw IL=>?_⟩,ok.un j hj Bs⟩
    · show j≠(Ev.ix (dd a t n)).toNat
      omega
    rw [bN (by omega)]
    exact ok.Hf Bs (by omega)) (by
  rintro e (rfl|h)
  · exact IS ok op ht h64 n0 n1
  · obtain ⟨w,hw,rfl⟩:=aQ.1 h
    exact ok.ev w hw) (by
  rintro e f (rfl|he) (rfl|hf) hn
  · rfl
  · exact absurd hn.symm (nn f hf)
  · exact absurd hn (nn e he)
  obtain ⟨v,hv,rfl⟩:=aQ.1 he
  obtain ⟨w,hw,rfl⟩:=aQ.1 hf;rw [ok.xK hv hw hn])
 have:(jN a t n).bv.take (aez a.bv+1)=(jN a t n).bv:=If (by rw [len];exact Do _);show fu ⟨fP a.ai,(jN a t n).bv,(jN a t n).aq⟩;rw [<- this];exact key
theorem Fq (ht:bS t) (h64:nQ t) (n0:0<=n) (n1:n<=1000000):lf (aez a.bv+1) (a.bv++[dd a t n]) a.aq:=by
 have bd:=ok.bd;obtain ⟨h1,h2,h3,h4⟩:=Bd (t:=t) (n:=n) ok op;refine ⟨by simp,by simp;omega,fun w hw=>?_⟩
 by_cases h:w<aez a.bv
 · rw [bN h];exact ok.cells.ev w h
 have:w=(aez a.bv):=by omega
 subst this;rw [cV (Do _),aaC];exact ⟨IS ok op ht h64 n0 n1,by show 0<=Ev.ix (dd a t n);omega,by show Ev.ix (dd a t n)<_;rw [ok.wl];omega⟩
theorem uB (fit:zf a) (ht:bS t) (h64:nQ t) (n0:0<=n) (n1:n<=1000000) (nn: ∀e∈a.bv,Ev.num e≠n):jB a t n=aeA (jN a t n,jM a.ai,0):=by
 have bd:=ok.bd;obtain ⟨h1,h2,h3,h4⟩:=Bd (t:=t) (n:=n) ok op;have hn: ¬ ∃w,w<aez a.bv/\(a.bv[w]!).2.2.1=n:=by rintro ⟨w,hw,e⟩;exact nn _ (aX hw) e
 unfold jB;rw [jY a fit,rc ok,eH h64,rc ht,Hh _ _ (by omega),aE hn,Bb ok.so,rc op];have se:=Fk (u:=(fP a.ai).aD) (us:=(fP a.ai).be) (fr:=(fP a.ai).bi) (IS ok op ht h64 n0 n1) (show 0<=Ev.ix (dd a t n) by omega) (Fq ok op ht h64 n0 n1) (by simp) (show (aez a.bv)<aez a.bv+1 by omega) (show Ev.ix (dd a t n)<(aez a.aq) by rw [ok.wl];omega);have e1:aa .i64 (((a.bv++[dd a t n]).length:Int) -1)=((aez a.bv):Int):=by rw [wi,aah];simp;omega
 have ap:bk a.bv [(t.1,t.2,n,jM a.ai)]=aeA (a.bv++[dd a t n]):=cZ (by simp;omega);have se':ew ((fP a.ai).aD,(fP a.ai).be,(fP a.ai).bi,((aez a.bv):Int),t.1,t.2,n,(jM a.ai).1,(jM a.ai).2,a.bv++[dd a t n],a.aq)=aeA (cu (aez a.bv+1) (dd a t n) (aez a.bv) (a.bv++[dd a t n]) a.aq):=se;simp only [aj,gt_iff_lt,acl,if_false,show ((0:Int) !=0)=aeC from rfl,pp,aE (show¬n<0 by omega),aE (show¬1000000<n by omega),aW (show (aez a.bv)<=1048576 by omega),aW (show (aez a.aq)<=1048576 by omega),ap,aA,e1,se'];rfl
theorem wk (ht:bS t) (h64:nQ t) (n0:0<=n) (n1:n<=1000000):eN a t n=aeA (jN a t n,jM a.ai):=by
 have bd:=ok.bd;obtain ⟨h1,h2,h3,h4⟩:=Bd (t:=t) (n:=n) ok op;unfold eN;rw [oW ok];have e1:aa .i64 (((a.bv++[dd a t n]).length:Int) -1)=((aez a.bv):Int):=by rw [wi,aah];simp;omega
 have ap:bk a.bv [(t.1,t.2,n,jM a.ai)]=aeA (a.bv++[dd a t n]):=cZ (by simp;omega);have hx:=IS (n:=n) ok op ht h64 n0 n1;have last:cu (aez a.bv+1) (dd a t n) (aez a.bv) (a.bv++[dd a t n]) a.aq=_:=KK (x:=dd a t n) ht.1 (Hi ok op) (KP ok op ht) (fun k k0 hk hp=>by omega);have hs:(a.bv++[dd a t n]).set (aez a.bv) (dd a t n)=a.bv++[dd a t n]:=eC (by rw [cV (Do _),aaC];rfl);have ws:bU a.aq (jM a.ai).1 ((aez a.bv):Int)=a.aq.set (Ev.n (dd a t n)) ((aez a.bv):Int):=rfl
 have u1:q9 ((fP a.ai).aD,(fP a.ai).be,(fP a.ai).bi,((aez a.bv):Int),a.bv++[dd a t n],a.aq.set (Ev.n (dd a t n)) ((aez a.bv):Int))=aeA (((ie (dd a t n) (aez a.bv) (a.bv++[dd a t n]) a.aq).1:Int),(ie (dd a t n) (aez a.bv) (a.bv++[dd a t n]) a.aq).2.1.set (ie (dd a t n) (aez a.bv) (a.bv++[dd a t n]) a.aq).1 (dd a t n),(ie (dd a t n) (aez a.bv) (a.bv++[dd a t n]) a.aq).2.2.set (Ev.n (dd a t n)) ((ie (dd a t n) (aez a.bv) (a.bv++[dd a t n]) a.aq).1:Int)):=by
  unfold q9;have:=Td (c0:=((fP a.ai).aD,(fP a.ai).be,(fP a.ai).bi,((aez a.bv):Int),a.bv++[dd a t n],a.aq.set (Ev.n (dd a t n)) ((aez a.bv):Int))) (u:=(fP a.ai).aD) (us:=(fP a.ai).be) (fr:=(fP a.ai).bi) hx (show 0<=Ev.ix (dd a t n) by omega) (aez a.bv) (a.bv++[dd a t n]) a.aq (Fq ok op ht h64 n0 n1) (by omega) (by simp) (by rw [ok.wl];omega) rfl v6;rw [hs] at this;exact this
 have g1:aH a.aq (jM a.ai).1=aeA a.aq[cM a.ai]!:=au a.aq (cM a.ai) (by rw [ok.wl];exact h2);simp only [aj,Ff ok.so op,ap,g1,aA,e1,ws,u1];unfold jN;rw [last]
end
theorem uC {a:aF} (ok:fu a) (op: ¬uA a.ai) (fit:zf a) {t:Int×Int} (ht:bS t) (h64:nQ t) {n:Int} (n0:0<=n) (n1:n<=1000000) (nn: ∀e∈a.bv,Ev.num e≠n):jB a t n=aeA (⟨⟨[],[],[]⟩,[],[]⟩,(0,0),18):=by
 have bd:=ok.bd;have hn: ¬ ∃w,w<aez a.bv/\(a.bv[w]!).2.2.1=n:=by rintro ⟨w,hw,e⟩;exact nn _ (aX hw) e
 unfold jB;rw [jY a fit,rc ok,eH h64,rc ht,Hh _ _ (by omega),aE hn,Bb ok.so,ut op];simp only [aj,gt_iff_lt,acl,if_false,show ((0:Int) !=0)=aeC from rfl,pp,aE (show¬n<0 by omega),aE (show¬1000000<n by omega),show ((18:Int) !=0)=aeB from rfl,lw]
theorem sI {l:List Ev} {n i:Nat} {v:Ev}:(l.set i v).take n=(l.take n).set i v:=by
 apply List.ext_getElem?;intro j;rw [ad2,ae1,ae1,ad2,EQ]
 by_cases h1:j<n
 · rw [rc h1]
   by_cases h2:i=j
   · subst h2
     by_cases h3:i<aez l
     · rw [rc rfl,rc h3,rc rfl,rc (by omega)]
     rw [rc rfl,ut h3,rc rfl,ut (by omega)]
   rw [ut h2,ut h2,rc h1]
 rw [ut h1]
 by_cases h2:i=j
 · rw [rc h2,ut (by omega)]
 rw [ut h2,ut h1]
theorem KR {n:Nat} {x:Ev}: ∀(i:Nat) (H:List Ev) (W:List Int),i<n->ie x i (H.take n) W=((ie x i H W).1,(ie x i H W).2.1.take n,(ie x i H W).2.2)
 |0,H,W,hi=>by rw [ie,ie]
 |i+1,H,W,hi=>by
  have e:(H.take n)[i / 2]! =H[i / 2]!:=iu (by omega);rw [ie,ie,e]
  by_cases h:less x H[i / 2]!
  · rw [rc h,rc h,<- sI]
    exact KR (i / 2) _ _ (by omega)
  rw [ut h,ut h]
termination_by i=>i
decreasing_by omega
theorem Tg {x:Ev}: ∀(i:Nat) (H:List Ev) (W:List Int),(ie x i H W).1<=i
 |0,H,W=>by rw [ie];exact Do _
 |i+1,H,W=>by
  rw [ie];split
  · exact aeu (Tg (i / 2) _ _) (by omega)
  exact Do _
termination_by i=>i
decreasing_by omega
theorem Fs {n:Nat} {H:List Ev} {i:Nat} (hk:2*i+1<n):gu n (H.take n) i=gu n H i:=by
 unfold gu
 by_cases h:2*i+2<n
 · rw [iu h,iu (show 2*i+1<n by omega)]
 rw [ut (fun k=>h k.1),ut (fun k=>h k.1)]
theorem KS {n:Nat} {x:Ev} {i:Nat} {H:List Ev} {W:List Int} (h:2*i+1<n) (hl:less H[gu n H i]! x):dC n x i H W=dC n x (gu n H i) (H.set i H[gu n H i]!) (W.set (H[gu n H i]!).n (i:Int)):=by rw [dC,dif_pos h,rc hl]
theorem vQ {n:Nat} {x:Ev} {i:Nat} {H:List Ev} {W:List Int} (h: ¬(2*i+1<n/\less H[gu n H i]! x)):dC n x i H W=(i,H,W):=by
 rw [dC];split
 · rename_i h1;rw [ut (fun k=>h ⟨h1,k⟩)]
 rfl
theorem Ft {n : Nat} {x : Ev} : ∀ (d i : Nat) (H : List Ev) (W : List Int), n - i <= d -> dC n x i (H.take n) W = ((dC n x i H W).1, (dC n x i H W).2.1.take n, (dC n x i H W).2.2)
  | 0, i, H, W, hd => by
    rw [vQ (fun h => by omega), vQ (fun h => by omega)]
  | d + 1, i, H, W, hd => by
    have kc := mN n H i
    by_cases h : 2 * i + 1 < n /\ less H[gu n H i]! x
    · have e : (H.take n)[gu n (H.take n) i]! = H[gu n H i]! := by rw [Fs h.1, iu (by omega)]
      rw [KS h.1 h.2, KS (H := H.take n) h.1 (by rw [e]; exact h.2), e, Fs h.1, <- sI]
      exact Ft d _ _ _ (by omega)
    have h' : ¬ (2 * i + 1 < n /\ less (H.take n)[gu n (H.take n) i]! x) := by
      rintro ⟨k1, k2⟩
      rw [Fs k1, iu (by omega)] at k2
      exact h ⟨k1, k2⟩
    rw [vQ h, vQ h']
theorem OC {x:Ev}: ∀(i:Nat) (H:List Ev) (W:List Int),(ie x i H W).2.1.length=aez H/\(ie x i H W).2.2.length=aez W
 |0,H,W=>by rw [ie];exact ⟨rfl,rfl⟩
 |i+1,H,W=>by
  rw [ie];split
  · have:=OC (x:=x) (i / 2) (H.set (i+1) H[i / 2]!) (W.set (H[i / 2]!).n ((i+1:Nat):Int))
    rwa [v6,v6] at this
  exact ⟨rfl,rfl⟩
termination_by i=>i
decreasing_by omega
theorem Bf {n:Nat} {x:Ev} {i:Nat} {H:List Ev} {W:List Int} (hi:i<n):cu n x i (H.take n) W=((cu n x i H W).1.take n,(cu n x i H W).2):=by unfold cu;rw [KR i H W hi];dsimp only;rw [Ft n _ _ _ (by omega)];dsimp only;rw [sI]
noncomputable def dw (a:aF) (i:Nat):aF:=
 if i<aez a.bv-1 then ⟨eY a.ai (a.bv[i]!).2.2.2,(cu (aez a.bv-1) a.bv[aez a.bv-1]! i a.bv (a.aq.set (Ev.n a.bv[i]!) (-1))).1.take (aez a.bv-1),(cu (aez a.bv-1) a.bv[aez a.bv-1]! i a.bv (a.aq.set (Ev.n a.bv[i]!) (-1))).2⟩
 else ⟨eY a.ai (a.bv[i]!).2.2.2,a.bv.take (aez a.bv-1),a.aq.set (Ev.n a.bv[i]!) (-1)⟩
section
variable {a : aF} (ok : fu a) {i : Nat} (hi : i < (aez a.bv))
include ok hi
theorem uD {w:Nat} (hw:w<aez a.bv) (dK:w≠i):Ev.n a.bv[w]!≠Ev.n a.bv[i]!:=by have h1:=(ok.back hw).1;have h2:=(ok.back hi).1;exact ahp h1 h2 fun h=>dK (ok.inj hw hi h)
theorem Hj:lf (aez a.bv-1) a.bv (a.aq.set (Ev.n a.bv[i]!) (-1)):=by have c:=ok.cells;refine ⟨by omega,c.hb,fun w hw=>?_⟩;rw [v6];exact c.ev w (by omega)
theorem Th (dz:i<aez a.bv-1):zZ (aez a.bv-1) a.bv[aez a.bv-1]! (fun e=> ∃w,w<aez a.bv-1/\w≠i/\a.bv[w]! =e) a.bv (a.aq.set (Ev.n a.bv[i]!) (-1)) i:=by
 obtain ⟨b1,b2,b3,b4,b5⟩:=ok.back (show (aez a.bv)-1<(aez a.bv) by omega);refine ⟨dz,by omega,fun w hw IL=>?_,b1,by rw [v6,ok.wl];exact b2,fun e=>aaB⟩;obtain ⟨c1,c2,c3,c4,c5⟩:=ok.back (show w<(aez a.bv) by omega);refine ⟨c1,by rw [v6,ok.wl];exact c2,?_,fun h=>?_⟩
 · rw [aT,ut (fun h=>uD ok hi (show w<(aez a.bv) by omega) IL h.1)]
   exact c5
 have:=ok.inj (show w<(aez a.bv) by omega) (show (aez a.bv)-1<(aez a.bv) by omega) h
 omega
theorem YG:Ord (aez a.bv-1) a.bv i:=
 ⟨fun w hw=>(ok.ev w (by omega)).den,fun k k0 hk _ _=>ok.ord k k0 (by omega),fun i0 k k0 hk hp=>ok.KJ i0 k0 (by omega) hp⟩
theorem CZ (dz:i<aez a.bv-1):
 yD (aez a.bv-1) a.bv[aez a.bv-1]! (fun e=> ∃w,w<aez a.bv-1/\w≠i/\a.bv[w]! =e) (fun k=>k≠Ev.n a.bv[aez a.bv-1]!/\ ∀w,w<aez a.bv-1->w≠i->Ev.n a.bv[w]!≠k) a.bv (a.aq.set (Ev.n a.bv[i]!) (-1))
  (cu (aez a.bv-1) a.bv[aez a.bv-1]! i a.bv (a.aq.set (Ev.n a.bv[i]!) (-1))).1 (cu (aez a.bv-1) a.bv[aez a.bv-1]! i a.bv (a.aq.set (Ev.n a.bv[i]!) (-1))).2:=
 xI (ok.ev (aez a.bv-1) (by omega)).den (Th ok hi dz) (YG ok hi)
theorem Hk:fF (eY a.ai (a.bv[i]!).2.2.2):=S7 ok.so (ok.handle hi).1
theorem xL {j:Nat} (hj:j<aez a.ai.aD):(eY a.ai (a.bv[i]!).2.2.2).be[j]! =if j=Ev.n a.bv[i]! then aeC else a.ai.be[j]!:=by
 have _:=hi;show (a.ai.be.set (Ev.n a.bv[i]!) aeC)[j]! =_;rw [aT];have:=ok.so.ul
 by_cases e:j=Ev.n a.bv[i]!
 · rw [rc ⟨e,by omega⟩,rc e]
 rw [ut (fun k=>e k.1),ut e]
theorem Cl:fu (dw a i):=by
 have hb:=ok.back hi;have hl:(aez a.bv)-1+(eY a.ai (a.bv[i]!).2.2.2).bi.length=(aez a.ai.aD):=by show (aez a.bv)-1+(a.ai.bi++[_]).length=_;rw [aah];have:=ok.hl;simp only [ae6,aeb];omega
 have un: ∀j,j<aez a.ai.aD->(eY a.ai (a.bv[i]!).2.2.2).be[j]! =aeC->(a.aq.set (Ev.n a.bv[i]!) (-1))[j]! = -1:=by
  intro j hj hu;rw [xL ok hi hj] at hu;rw [aT]
  by_cases e:j=Ev.n a.bv[i]!
  · rw [rc ⟨e.symm▸rfl,by rw [ok.wl];omega⟩]
  rw [ut e] at hu
  rw [ut (fun k=>e k.1)];exact ok.un j hj hu
 unfold dw
 by_cases dz:i<aez a.bv-1
 · rw [rc dz]
   have st:=CZ ok hi dz;refine tC (Hk ok hi) st (by omega) (by rw [v6];exact ok.wl) hl (fun j hj hu=>?_) (fun j hj hu=>⟨⟨?_,fun w hw IL=>?_⟩,un j hj hu⟩) ?_ ?_
   · change j<(aez a.ai.aD) at hj
     rw [xL ok hi hj] at hu
     by_cases e:j=Ev.n a.bv[i]!
     · rw [rc e] at hu;cases hu
     rw [ut e] at hu
     obtain ⟨w,hw,e1,e2⟩:=ok.DC hj hu;refine ⟨a.bv[w]!,?_,e1,e2⟩
     by_cases lL:w=aez a.bv-1
     · left;rw [lL]
     refine .inr ⟨w,by omega,fun h=>e ?_,rfl⟩
     rw [<- h];show j=(Ev.ix a.bv[w]!).toNat;omega
   · change j<(aez a.ai.aD) at hj
     rw [xL ok hi hj] at hu
     by_cases e:j=Ev.n a.bv[i]!
     · rw [e];exact (uD ok hi (by omega) (by omega)).symm
     rw [ut e] at hu
     exact (ok.Hf hu (by omega)).symm
   · change j<(aez a.ai.aD) at hj
     rw [xL ok hi hj] at hu
     by_cases e:j=Ev.n a.bv[i]!
     · rw [e];exact uD ok hi (by omega) IL
     rw [ut e] at hu
     exact ok.Hf hu (by omega)
   · rintro e (rfl|⟨w,hw,_,rfl⟩)
     · exact ok.ev _ (by omega)
     exact ok.ev w (by omega)
   rintro e f (rfl|⟨v,hv,hvi,rfl⟩) (rfl|⟨w,hw,IL,rfl⟩) he
   · rfl
   · rw [ok.xK (by omega) (by omega) he]
   · rw [ok.xK (by omega) (by omega) he]
   rw [ok.xK (by omega) (by omega) he]
 rw [ut dz]
 have hie:i=aez a.bv-1:=by omega
 refine ZU (Hk ok hi) (fun e=> ∃w,w<aez a.bv-1/\a.bv[w]! =e) (by omega) (by rw [v6];exact ok.wl) hl (fun w hw=>?_) (fun e=>aaB) (fun k k0 hk=>ok.ord k k0 (by omega)) (fun j hj hu=>?_) un ?_ ?_
 · obtain ⟨c1,c2,c3,c4,c5⟩:=ok.back (show w<(aez a.bv) by omega)
   refine ⟨c1,by rw [v6,ok.wl];exact c2,?_⟩;rw [aT,ut (fun h=>uD ok hi (show w<(aez a.bv) by omega) (by omega) h.1)];exact c5
 · change j<(aez a.ai.aD) at hj
   rw [xL ok hi hj] at hu
   by_cases e:j=Ev.n a.bv[i]!
   · rw [rc e] at hu;cases hu
   rw [ut e] at hu
   obtain ⟨w,hw,e1,e2⟩:=ok.DC hj hu;refine ⟨a.bv[w]!,⟨w,?_,rfl⟩,e1,e2⟩;have:w≠i:=fun h=>e (by rw [<- h];show j=(Ev.ix a.bv[w]!).toNat;omega)
   omega
 · rintro e ⟨w,hw,rfl⟩
   exact ok.ev w (by omega)
 rintro e f ⟨v,hv,rfl⟩ ⟨w,hw,rfl⟩ he
 rw [ok.xK (by omega) (by omega) he]
theorem Fu (e:Ev):e∈(dw a i).bv↔(e∈a.bv/\e≠a.bv[i]!):=by
 have other: ∀w,w<aez a.bv->(a.bv[w]!≠a.bv[i]!↔w≠i):=fun w hw=>⟨fun h k=>h (by rw [k]),fun h k=>h (ok.inj hw hi (by rw [k]))⟩
 unfold dw
 by_cases dz:i<aez a.bv-1
 · rw [rc dz]
   have st:=CZ ok hi dz;show e∈(_:List Ev).take _↔_;rw [zg (by rw [st.hl];omega)];refine (st.mem e).trans ?_;constructor
   · rintro (h|⟨w,hw,IL,rfl⟩)
     · rw [h];exact ⟨aX (by omega),(other _ (by omega)).2 (by omega)⟩
     exact ⟨aX (by omega),(other _ (by omega)).2 IL⟩
   rintro ⟨h,dK⟩
   obtain ⟨w,hw,rfl⟩:=aQ.1 h
   by_cases c:w=aez a.bv-1
   · left;rw [c]
   exact .inr ⟨w,by omega,(other w hw).1 dK,rfl⟩
 rw [ut dz]
 show e∈a.bv.take _↔_;rw [zg (by omega)];constructor
 · rintro ⟨w,hw,rfl⟩
   exact ⟨aX (by omega),(other _ (by omega)).2 (by omega)⟩
 rintro ⟨h,dK⟩
 obtain ⟨w,hw,rfl⟩:=aQ.1 h;have:=(other w hw).1 dK;exact ⟨w,by omega,rfl⟩
theorem Cm:oT a (i:Int)=aeA (dw a i,a.bv[i]!,0):=by
 have bd:=ok.bd;obtain ⟨b1,b2,b3,b4,b5⟩:=ok.back hi;obtain ⟨c1,c2,c3,c4,c5⟩:=ok.back (show (aez a.bv)-1<(aez a.bv) by omega);unfold oT;have e1:aa .i64 (((aez a.bv):Int) -1)=((aez a.bv-1:Nat):Int):=nI (by omega) (by omega);have g1:aH a.aq (a.bv[i]!).2.2.2.1=aeA a.aq[(a.bv[i]!).2.2.2.1.toNat]!:=eG b1 (by rw [ok.wl];exact b2);have ws:bU a.aq (a.bv[i]!).2.2.2.1 (-1)=a.aq.set (Ev.n a.bv[i]!) (-1):=rfl;simp only [au a.bv i hi,aj,IJ ok.so (ok.handle hi).1,show ((0:Int) !=0)=aeC from rfl,pp,aW (show (aez a.bv)<=1048576 by omega),aW (show (aez a.aq)<=1048576 by omega),aA,e1,au a.bv (aez a.bv-1) (by omega),js a.bv (aez a.bv-1) (by omega),g1,ws,M2];unfold dw
 by_cases dz:i<aez a.bv-1
 · rw [aG (by omega),rc dz]
   have se:=M0 (cap:=aez a.bv) (u:=(eY a.ai (a.bv[i]!).2.2.2).aD) (us:=(eY a.ai (a.bv[i]!).2.2.2).be) (fr:=(eY a.ai (a.bv[i]!).2.2.2).bi) (ok.ev (aez a.bv-1) (by omega)) (show 0<=Ev.ix a.bv[aez a.bv-1]! from c1) (Hj ok hi) dz (show Ev.ix a.bv[aez a.bv-1]!<_ by rw [v6,ok.wl];exact c2);rw [se];rfl
 rw [aE (by omega),ut dz]
 rfl
theorem oE (fit:zf a) {h:Int×Int} (hh:(a.bv[i]!).2.2.2=h):ke a h=aeA (dw a i,a.bv[i]!,0):=by unfold ke;rw [KO ok fit hi hh];simp only [aj,show ((0:Int) !=0)=aeC from rfl,pp,Cm ok hi]
theorem uE {h:Int×Int} (hh:(a.bv[i]!).2.2.2=h):kg a h=aeA (dw a i):=by
 have bd:=ok.bd;subst hh;obtain ⟨b1,b2,b3,b4,b5⟩:=ok.back hi;obtain ⟨c1,c2,c3,c4,c5⟩:=ok.back (show (aez a.bv)-1<(aez a.bv) by omega);unfold kg;rw [oW ok];have e1:aa .i64 (((aez a.bv):Int) -1)=((aez a.bv-1:Nat):Int):=nI (by omega) (by omega);have g1:aH a.aq (a.bv[i]!).2.2.2.1=aeA (i:Int):=by rw [eG (l:=a.aq) b1 (by rw [ok.wl];exact b2)];exact congrArg aeA b5
 have gv:=Fe ok.so (ok.handle hi).1;simp only [aj,g1,aA,e1,M2];unfold dw
 by_cases dz:i<aez a.bv-1
 · rw [dZ (show (i:Int)≠((aez a.bv-1:Nat):Int) by omega),rc dz]
   have dK:(aez a.bv)-1≠i:=by omega
   have nn:Ev.n a.bv[aez a.bv-1]!≠Ev.n a.bv[i]!:=uD ok hi (by omega) dK;have sw:=Bc (n:=aez a.bv) (x:=a.bv[i]!) (u:=a.ai.aD) (us:=a.ai.be) (fr:=a.ai.bi) (H:=a.bv) (W:=a.aq) hi (show (aez a.bv)-1<(aez a.bv) by omega) dK rfl b1 (by rw [ok.wl];exact b2) c1 (by rw [ok.wl];exact c2);rw [eC (l:=a.bv) rfl,eC (l:=a.aq) b5] at sw;have hs:(a.bv.set i a.bv[aez a.bv-1]!).set (aez a.bv-1) a.bv[i]! =(a.bv.set (aez a.bv-1) a.bv[i]!).set i a.bv[aez a.bv-1]!:=aes _ _ (by omega);have ws:bU ((a.aq.set (Ev.n a.bv[aez a.bv-1]!) (i:Int)).set (Ev.n a.bv[i]!) ((aez a.bv-1:Nat):Int)) (a.bv[i]!).2.2.2.1 (-1)=(a.aq.set (Ev.n a.bv[i]!) (-1)).set (Ev.n a.bv[aez a.bv-1]!) (i:Int):=by
    show ((a.aq.set (Ev.n a.bv[aez a.bv-1]!) (i:Int)).set (Ev.n a.bv[i]!) ((aez a.bv-1:Nat):Int)).set (Ev.n a.bv[i]!) (-1)=_;rw [List.set_set,aes _ _ nn]
   have g2:aH ((a.aq.set (Ev.n a.bv[aez a.bv-1]!) (i:Int)).set (Ev.n a.bv[i]!) ((aez a.bv-1:Nat):Int)) (a.bv[i]!).2.2.2.1=aeA _:=eG b1 (by rw [v6,v6,ok.wl];exact b2);have cells:lf (aez a.bv-1) (a.bv.set (aez a.bv-1) a.bv[i]!) (a.aq.set (Ev.n a.bv[i]!) (-1)):=by refine ⟨by rw [v6];omega,by rw [v6];omega,fun w hw=>?_⟩;rw [aT,ut (by omega)];exact (Hj ok hi).ev w hw
   have x1:Ev.ix a.bv[aez a.bv-1]!<(a.aq.set (Ev.n a.bv[i]!) (-1)).length:=by rw [v6,ok.wl];exact c2
   have hx:=ok.ev (aez a.bv-1) (by omega);have gv':pH (aS.mk a.ai.aD a.ai.be a.ai.bi) (a.bv[i]!).2.2.2=aeA (eY a.ai (a.bv[i]!).2.2.2):=gv;have tk:(a.bv.set (aez a.bv-1) a.bv[i]!).take (aez a.bv-1)=a.bv.take (aez a.bv-1):=by rw [sI];exact aax (by rw [EQ];omega)
   have U:nD ((eY a.ai (a.bv[i]!).2.2.2).aD,(eY a.ai (a.bv[i]!).2.2.2).be,(eY a.ai (a.bv[i]!).2.2.2).bi,aez a.bv-1,((a.bv.set (aez a.bv-1) a.bv[i]!).set i a.bv[aez a.bv-1]!).length,(i:Int),(a.bv.set (aez a.bv-1) a.bv[i]!).set i a.bv[aez a.bv-1]!,(a.aq.set (Ev.n a.bv[i]!) (-1)).set (Ev.n a.bv[aez a.bv-1]!) (i:Int))=
    aeA (((ie a.bv[aez a.bv-1]! i (a.bv.set (aez a.bv-1) a.bv[i]!) (a.aq.set (Ev.n a.bv[i]!) (-1))).1:Int),(ie a.bv[aez a.bv-1]! i (a.bv.set (aez a.bv-1) a.bv[i]!) (a.aq.set (Ev.n a.bv[i]!) (-1))).2.1.set (ie a.bv[aez a.bv-1]! i (a.bv.set (aez a.bv-1) a.bv[i]!) (a.aq.set (Ev.n a.bv[i]!) (-1))).1 a.bv[aez a.bv-1]!,(ie a.bv[aez a.bv-1]! i (a.bv.set (aez a.bv-1) a.bv[i]!) (a.aq.set (Ev.n a.bv[i]!) (-1))).2.2.set (Ev.n a.bv[aez a.bv-1]!) ((ie a.bv[aez a.bv-1]! i (a.bv.set (aez a.bv-1) a.bv[i]!) (a.aq.set (Ev.n a.bv[i]!) (-1))).1:Int)):=by
    unfold nD;exact S' (n:=aez a.bv-1) (c0:=((eY a.ai (a.bv[i]!).2.2.2).aD,(eY a.ai (a.bv[i]!).2.2.2).be,(eY a.ai (a.bv[i]!).2.2.2).bi,aez a.bv-1,((a.bv.set (aez a.bv-1) a.bv[i]!).set i a.bv[aez a.bv-1]!).length,(i:Int),(a.bv.set (aez a.bv-1) a.bv[i]!).set i a.bv[aez a.bv-1]!,(a.aq.set (Ev.n a.bv[i]!) (-1)).set (Ev.n a.bv[aez a.bv-1]!) (i:Int))) hx c1 i _ _ cells dz x1 v6 v6
   have ul:=Tg (x:=a.bv[aez a.bv-1]!) i (a.bv.set (aez a.bv-1) a.bv[i]!) (a.aq.set (Ev.n a.bv[i]!) (-1));have un:=OC (x:=a.bv[aez a.bv-1]!) i (a.bv.set (aez a.bv-1) a.bv[i]!) (a.aq.set (Ev.n a.bv[i]!) (-1));have uc:=fun w hw=>xJ (x:=a.bv[aez a.bv-1]!) cells dz (i:=i) rfl w hw
   have M1:lf (aez a.bv-1) (ie a.bv[aez a.bv-1]! i (a.bv.set (aez a.bv-1) a.bv[i]!) (a.aq.set (Ev.n a.bv[i]!) (-1))).2.1 (ie a.bv[aez a.bv-1]! i (a.bv.set (aez a.bv-1) a.bv[i]!) (a.aq.set (Ev.n a.bv[i]!) (-1))).2.2:=by refine ⟨by rw [un.1,v6];omega,by rw [un.1,v6];omega,fun w hw=>?_⟩;rw [un.2];exact uc w hw
   have D:lF ((eY a.ai (a.bv[i]!).2.2.2).aD,(eY a.ai (a.bv[i]!).2.2.2).be,(eY a.ai (a.bv[i]!).2.2.2).bi,aez a.bv-1,((a.bv.set (aez a.bv-1) a.bv[i]!).set i a.bv[aez a.bv-1]!).length,((ie a.bv[aez a.bv-1]! i (a.bv.set (aez a.bv-1) a.bv[i]!) (a.aq.set (Ev.n a.bv[i]!) (-1))).1:Int),(ie a.bv[aez a.bv-1]! i (a.bv.set (aez a.bv-1) a.bv[i]!) (a.aq.set (Ev.n a.bv[i]!) (-1))).2.1.set (ie a.bv[aez a.bv-1]! i (a.bv.set (aez a.bv-1) a.bv[i]!) (a.aq.set (Ev.n a.bv[i]!) (-1))).1 a.bv[aez a.bv-1]!,(ie a.bv[aez a.bv-1]! i (a.bv.set (aez a.bv-1) a.bv[i]!) (a.aq.set (Ev.n a.bv[i]!) (-1))).2.2.set (Ev.n a.bv[aez a.bv-1]!) ((ie a.bv[aez a.bv-1]! i (a.bv.set (aez a.bv-1) a.bv[i]!) (a.aq.set (Ev.n a.bv[i]!) (-1))).1:Int))=
    aeA (cu (aez a.bv-1) a.bv[aez a.bv-1]! i (a.bv.set (aez a.bv-1) a.bv[i]!) (a.aq.set (Ev.n a.bv[i]!) (-1))):=by
    unfold lF
    exact KL (n:=aez a.bv-1) (c0:=((eY a.ai (a.bv[i]!).2.2.2).aD,(eY a.ai (a.bv[i]!).2.2.2).be,(eY a.ai (a.bv[i]!).2.2.2).bi,aez a.bv-1,((a.bv.set (aez a.bv-1) a.bv[i]!).set i a.bv[aez a.bv-1]!).length,((ie a.bv[aez a.bv-1]! i (a.bv.set (aez a.bv-1) a.bv[i]!) (a.aq.set (Ev.n a.bv[i]!) (-1))).1:Int),(ie a.bv[aez a.bv-1]! i (a.bv.set (aez a.bv-1) a.bv[i]!) (a.aq.set (Ev.n a.bv[i]!) (-1))).2.1.set (ie a.bv[aez a.bv-1]! i (a.bv.set (aez a.bv-1) a.bv[i]!) (a.aq.set (Ev.n a.bv[i]!) (-1))).1 a.bv[aez a.bv-1]!,(ie a.bv[aez a.bv-1]! i (a.bv.set (aez a.bv-1) a.bv[i]!) (a.aq.set (Ev.n a.bv[i]!) (-1))).2.2.set (Ev.n a.bv[aez a.bv-1]!) ((ie a.bv[aez a.bv-1]! i (a.bv.set (aez a.bv-1) a.bv[i]!) (a.aq.set (Ev.n a.bv[i]!) (-1))).1:Int))) hx c1 (aez a.bv) (ie a.bv[aez a.bv-1]! i (a.bv.set (aez a.bv-1) a.bv[i]!) (a.aq.set (Ev.n a.bv[i]!) (-1))).1 (ie a.bv[aez a.bv-1]! i (a.bv.set (aez a.bv-1) a.bv[i]!) (a.aq.set (Ev.n a.bv[i]!) (-1))).2.1 (ie a.bv[aez a.bv-1]! i (a.bv.set (aez a.bv-1) a.bv[i]!) (a.aq.set (Ev.n a.bv[i]!) (-1))).2.2 (by omega) M1 (by omega) (by rw [un.2];exact x1) v6 v6
   have st:=Bf (n:=(aez a.bv-1)) (x:=a.bv[aez a.bv-1]!) (i:=i) (H:=(a.bv.set (aez a.bv-1) a.bv[i]!)) (W:=(a.aq.set (Ev.n a.bv[i]!) (-1))) dz;have uJ:=Bf (n:=(aez a.bv-1)) (x:=a.bv[aez a.bv-1]!) (i:=i) (H:=a.bv) (W:=(a.aq.set (Ev.n a.bv[i]!) (-1))) dz;rw [tk,uJ] at st;injection st with mW Mm;simp only [lw,sw,aj,js _ (aez a.bv-1) (show (aez a.bv)-1<=((a.bv.set (aez a.bv-1) a.bv[i]!).set i a.bv[aez a.bv-1]!).length by rw [v6,v6];omega),g2,gv',ws,hs,U,D,<- mW,<- Mm]
 rw [cS (show (i:Int)=((aez a.bv-1:Nat):Int) by omega),ut dz]
 have ws:bU a.aq (a.bv[i]!).2.2.2.1 (-1)=a.aq.set (Ev.n a.bv[i]!) (-1):=rfl;simp only [pp,js a.bv (aez a.bv-1) (by omega),aj,gv,ws]
end
abbrev pX:=Int×Int×Int
theorem fu.fit {a:aF} (ok:fu a):zf a:=by have bd:=ok.bd;have:=ok.so.fl;have:=ok.so.n2;exact ⟨by omega,by omega,by omega,fun w hw=>(ok.ev w hw).2.1⟩
theorem oX (l:List pX) (id:Int) (hl:(aez l)<=1000000) (hs: ∀i j,i<j->j<aez l->(l[i]!).1<(l[j]!).1):
 (∀k,k<aez l->(l[k]!).1=id->aO l id ()=aeA ((k:Int),aeB))/\
 ((∀k,k<aez l->(l[k]!).1≠id)-> ∃m,m<=aez l/\(∀i,i<m->(l[i]!).1<id)/\(∀i,m<=i->i<aez l->id<(l[i]!).1)/\aO l id ()=aeA ((m:Int),aeC)):=by
 obtain ⟨m,m1,m2,m3⟩:=KI (fun i=>(l[i]!).1) id (aez l) hs;have run:aO l id ()=ar aP (l,id,((aez l):Int),(m:Int),(m:Int)):=by
  unfold aO;refine Ch (body:=aP) (fun lo hi=>(l,id,((aez l):Int),(lo:Int),(hi:Int))) (aez l) m (fun i=>(l[i]!).1<id) (fun lo hi h1 h2=>?_) m2 (fun i h1 h2 h3=>by have:=m3 i h1 h2;omega) (aez l) 0 (aez l) (by omega) (by omega) m1 (Do _);have e1:aeD ((lo:Int)<(hi:Int))=aeB:=aG (by omega);have hh:=YC (a:=lo) (b:=hi) (by omega) (by omega);unfold aP pE;simp only [e1,lw,hh,au l ((lo+hi) / 2) (by omega),jr,aj,ba (show (lo+hi) / 2<1000000000 by omega)];constructor
  · intro h
    have:aeD (iV (l[(lo+hi) / 2]!).1 id<0)=aeB:=by rcases eW (l[(lo+hi) / 2]!).1 id with ⟨a,e⟩|⟨a,e⟩|⟨a,e⟩<;>rw [e]<;>first|rfl|omega
    rw [this];rfl
  intro h
  have:aeD (iV (l[(lo+hi) / 2]!).1 id<0)=aeC:=by rcases eW (l[(lo+hi) / 2]!).1 id with ⟨a,e⟩|⟨a,e⟩|⟨a,e⟩<;>rw [e]<;>first|rfl|omega
  rw [this];rfl
 have fin:ar aP (l,id,((aez l):Int),(m:Int),(m:Int))=if m<aez l/\(l[m]!).1=id then aeA ((m:Int),aeB) else aeA ((m:Int),aeC):=by
  have e1:aeD ((m:Int)<(m:Int))=aeC:=aE (by omega)
  by_cases hm:m<aez l
  · have e2:aeD ((m:Int)<((aez l):Int))=aeB:=aG (by omega)
    have body:aP (l,id,((aez l):Int),(m:Int),(m:Int))=aeA (.done ((m:Int),iV (l[m]!).1 id==0)):=by unfold aP pE;simp only [e1,e2,lw,pp,au l m hm,jr,aj]
    rw [aC body];rcases eW (l[m]!).1 id with ⟨a,e⟩|⟨a,e⟩|⟨a,e⟩
    · rw [e,ut (fun h=>by omega)];rfl
    · rw [e,rc ⟨hm,a⟩];rfl
    rw [e,ut (fun h=>by omega)];rfl
  have e2:aeD ((m:Int)<((aez l):Int))=aeC:=aE (by omega)
  have body:aP (l,id,((aez l):Int),(m:Int),(m:Int))=aeA (.done ((m:Int),aeC)):=by unfold aP;simp only [e1,e2,pp]
  rw [aC body,ut (fun h=>hm h.1)]
 rw [run,fin];constructor
 · intro k hk he
   have hkm:k=m:=by
    rcases aav k m with h|h|h
    · have:=m2 k h;omega
    · exact h
    have h1:=m3 m (Do _) (by omega)
    have h2:=hs m k h hk;omega
   subst hkm;rw [rc ⟨hk,he⟩]
 intro h
 refine ⟨m,m1,m2,fun i h1 h2=>?_,?_⟩
 · have:=m3 i h1 h2
   have:=h i h2;omega
 rw [ut (fun k=>h m k.1 k.2)]
theorem ad9:cY=aO:=rfl
theorem Ti:cR=aO:=rfl
theorem Bg:cU=aO:=rfl
theorem ry {α:Type} (l:List α) (k:Nat):l.eraseIdx k=l.take k++l.drop (k+1):=List.eraseIdx_eq_take_drop_succ l k
theorem sJ (l:List pX) (k:Nat) (hk:k<aez l): ∃L:List pX,dN ((k:Int),((k+1:Nat):Int),l)=aeA (aez l-1,aez l,L)/\L.take (aez l-1)=l.eraseIdx k:=by
 unfold dN;have e1:aeD ((0:Int)<=(k:Int))=aeB:=aG (by omega);have e2:aeD ((k:Int)<=((k+1:Nat):Int))=aeB:=aG (by omega);have e3:aeD (((k+1:Nat):Int)<=((aez l):Int))=aeB:=aG (by omega);have e4:aeD (((aez l):Int)<=((aez l):Int))=aeB:=aG (by omega);have e5:((k:Int)==((k+1:Nat):Int))=aeC:=eu (by omega);have e6:aeD ((0:Int)<=((k+1:Nat):Int))=aeB:=aG (by omega);have e7:aeD ((k:Int)<=((aez l):Int))=aeB:=aG (by omega);have dr:(l.drop (k+1)).take (aez l- (k+1))=l.drop (k+1):=If (by rw [aaz];exact Do _);have dl:(l.drop (k+1)).length=aez l- (k+1):=aaz;simp only [aA,e1,e2,e3,e4,e5,e6,e7,aet,lw,pp,js l k (by omega),aj,M2,Nat.zero_add,dr,dl,ac0,Bool.and_true]
 by_cases h:k+1=aez l
 · have em:(l.drop (k+1)).isEmpty=aeB:=by rw [ae7,ac1];omega
   have n1:aev (aez l-k) 0=aeC:=by
    cases hb:aev (aez l-k) 0 with
    |false=>rfl
    |true=>have:=aaS hb;omega
   have n2:Nat.ble (k+(aez l-k)) (aez l)=aeB:=UV (by omega);have ll:(eK l k (aeq (aez l-k) ((0:Int),(0:Int),(0:Int)))).length=(aez l):=by unfold eK;simp;omega
   simp only [em,lw,n1,pp,n2,ll,beq_self_eq_true];refine ⟨_,by rw [show k=aez l-1 by omega],?_⟩;rw [ry,show (aez l)-1=k by omega];unfold eK;rw [PP,IR (by rw [EQ];omega),aer,aew];rw [aaG (by omega),aeg]
 have em:(l.drop (k+1)).isEmpty=aeC:=by
  cases hb:(l.drop (k+1)).isEmpty with
  |false=>rfl
  |true=>rw [ae7,ac1] at hb;omega
 have n1:Nat.ble (k+(aez l- (k+1))) (aez l)=aeB:=UV (by omega);have n2:aeD ((0:Int)<=((k+(aez l- (k+1)):Nat):Int))=aeB:=aG (by omega);have n3:aeD (((k+(aez l- (k+1)):Nat):Int)<=((aez l):Int))=aeB:=aG (by omega);have n4:aev (aez l- (k+(aez l- (k+1)))) 0=aeC:=by
  cases hb:aev (aez l- (k+(aez l- (k+1)))) 0 with
  |false=>rfl
  |true=>have:=aaS hb;omega
 have l1:(eK l k (l.drop (k+1))).length=(aez l):=by unfold eK;simp;omega
 have n5:Nat.ble (k+(aez l- (k+1))+(aez l- (k+(aez l- (k+1))))) (aez l)=aeB:=UV (by omega);have l2:(eK (eK l k (l.drop (k+1))) (k+(aez l- (k+1))) (aeq (aez l- (k+(aez l- (k+1)))) ((0:Int),(0:Int),(0:Int)))).length=(aez l):=by unfold eK;simp;omega
 simp only [em,pp,n1,lw,n2,n3,aet,n4,l1,n5,l2,beq_self_eq_true];refine ⟨_,by rw [show k+(aez l- (k+1))=aez l-1 by omega],?_⟩;rw [ry];have:k+(aez l- (k+1))=aez l-1:=by omega
 unfold eK;rw [PP,IR (by simp;omega),aer,aew,PP];rw [show (l.take k++(l.drop (k+1)++l.drop (k+(l.drop (k+1)).length)))=(l.take k++l.drop (k+1))++l.drop (k+(l.drop (k+1)).length) by rw [PP]];rw [IR (by simp;omega),If (by simp;omega)]
theorem Fv:gK=dN:=rfl
theorem vR {α:Type} [Inhabited α] {l:List α} {k i:Nat}:(l.eraseIdx k)[i]! =if i<k then l[i]! else l[i+1]!:=by
 rw [ry]
 by_cases hk:k<aez l
 · by_cases h:i<k
   · rw [rc h,bN (by rw [EQ];omega),iu h]
   rw [ut h,cV (by rw [EQ];omega),lG,EQ]
   congr 1;omega
 have e1:l.take k=l:=If (by omega)
 have e2:l.drop (k+1)=[]:=aaG (by omega);rw [e1,e2,aeg];split
 · rfl
 rw [getElem!_neg l i (by omega),getElem!_neg l (i+1) (by omega)]
def fi (x:Int×Int):Prop:=0<=x.1/\x.1<=65535/\0<=x.2/\x.2<=65535/\x.1≠x.2
theorem zh (x:Int×Int):qS x=aeA (aeD (fi x)):=by
 obtain ⟨a,b⟩:=x;unfold qS;dsimp only
 by_cases h1:0<=a
 · by_cases h3:0<=b
   · have e1:aeD (0<=if b<a then b else a)=aeB:=aG (by split<;>omega)
     rw [e1]
     by_cases h2:a<=65535
     · by_cases h4:b<=65535
       · have e2:aeD ((if b>a then b else a)<=65535)=aeB:=aG (by split<;>omega)
         rw [e2]
         by_cases h5:a=b
         · rw [cS h5,aE (p:=fi (a,b)) (fun h=>h.2.2.2.2 h5)];rfl
         rw [dZ h5,aG (p:=fi (a,b)) ⟨h1,h2,h3,h4,h5⟩];rfl
       have e2:aeD ((if b>a then b else a)<=65535)=aeC:=aE (by split<;>omega)
       rw [e2,aE (p:=fi (a,b)) (fun h=>h4 h.2.2.2.1)];rfl
     have e2:aeD ((if b>a then b else a)<=65535)=aeC:=aE (by split<;>omega)
     rw [e2,aE (p:=fi (a,b)) (fun h=>h2 h.2.1)];rfl
   have e1:aeD (0<=if b<a then b else a)=aeC:=aE (by split<;>omega)
   rw [e1,aE (p:=fi (a,b)) (fun h=>h3 h.2.2.1)];rfl
 have e1:aeD (0<=if b<a then b else a)=aeC:=aE (by split<;>omega)
 rw [e1,aE (p:=fi (a,b)) (fun h=>h1 h.1)];rfl
theorem zi (x:Int×Int):vF x=aeA (aeD (fi x)):=by
 obtain ⟨a,b⟩:=x;unfold vF;dsimp only
 by_cases h1:0<=a
 · by_cases h2:a<=65535
   · by_cases h3:0<=b
     · by_cases h4:b<=65535
       · by_cases h5:a=b
         · rw [cS h5,aG h1,aG h2,aG h3,aG h4,aE (p:=fi (a,b)) (fun h=>h.2.2.2.2 h5)];rfl
         rw [dZ h5,aG h1,aG h2,aG h3,aG h4,aG (p:=fi (a,b)) ⟨h1,h2,h3,h4,h5⟩];rfl
       rw [aG h1,aG h2,aG h3,aE h4,aE (p:=fi (a,b)) (fun h=>h4 h.2.2.2.1)];rfl
     rw [aG h1,aG h2,aE h3,aE (p:=fi (a,b)) (fun h=>h3 h.2.2.1)];rfl
   rw [aG h1,aE h2,aE (p:=fi (a,b)) (fun h=>h2 h.2.1)];rfl
 rw [aE h1,aE (p:=fi (a,b)) (fun h=>h1 h.1)];rfl
structure eQ (c:bm):Prop where
 len:(aez c.ce)<=200
 n0:0<=c.aM
 n1:c.aM<=1000000
 cv: ∀i,i<aez c.ce->fi (c.ce[i]!).2
 nr: ∀i,i<aez c.ce->0<=(c.ce[i]!).1/\(c.ce[i]!).1<c.aM
 up: ∀i j,i<j->j<aez c.ce->(c.ce[i]!).1<(c.ce[j]!).1
 nd: ∀i j,i<j->j<aez c.ce->(c.ce[i]!).2≠(c.ce[j]!).2
def xM (l:List pX) (i:Nat):Int:=if i=0 then -1 else (l[i-1]!).1
def M3 (c:bm) (i:Nat):Prop:=fi (c.ce[i]!).2/\(∀j,j<i->(c.ce[j]!).2≠(c.ce[i]!).2)/\xM c.ce i<(c.ce[i]!).1/\(c.ce[i]!).1<c.aM
theorem eQ.iff {c:bm} (h1:(aez c.ce)<=200) (h2:0<=c.aM) (h3:c.aM<=1000000):eQ c↔ ∀i,i<aez c.ce->M3 c i:=by
 constructor
 · intro ok i hi
   refine ⟨ok.cv i hi,fun j hj=>ok.nd j i hj hi,?_,(ok.nr i hi).2⟩;unfold xM;split
   · have:=(ok.nr i hi).1;omega
   exact ok.up (i-1) i (by omega) hi
 intro h
 have low: ∀i,i<aez c.ce->0<=(c.ce[i]!).1:=by
  intro i
  induction i with
  |zero=>intro hi;have:=(h 0 hi).2.2.1;unfold xM at this;rw [rc rfl] at this;omega
  |succ i ih=>intro hi;have h1:=(h (i+1) hi).2.2.1;unfold xM at h1;rw [ut (by omega),show i+1-1=i by omega] at h1;have:=ih (by omega);omega
 have up: ∀i j,i<j->j<aez c.ce->(c.ce[i]!).1<(c.ce[j]!).1:=by
  intro i j
  induction j with
  |zero=>intro h;omega
  |succ j ih=>
   intro kL hj;have h1:=(h (j+1) hj).2.2.1;unfold xM at h1;rw [ut (by omega),show j+1-1=j by omega] at h1
   by_cases e:i=j
   · subst e;exact h1
   have:=ih (by omega) (by omega)
   omega
 exact ⟨h1,h2,h3,fun i hi=>(h i hi).1,fun i hi=>⟨low i hi,(h i hi).2.2.2⟩,up,fun i j kL hj=>(h j hj).2.1 i kL⟩
theorem Fw (l:List pX) (k:Nat) (a b:Int):ng [a,b] ((l.take k).map fun x=>[x.2.1,x.2.2])=aeB:=by unfold ng;rw [List.all_eq_true];intro x hx;obtain ⟨y,hy,rfl⟩:=NE.1 hx;rfl
theorem Fx (l:List pX) (k:Nat) (x:Int×Int):C9 ((l.take k).map fun y=>[y.2.1,y.2.2]) [x.1,x.2]=aeD (∃j,j<k/\j<aez l/\(l[j]!).2=x):=by
 unfold C9;rw [aeh,List.any_eq_true,decide_eq_true_iff];constructor
 · rintro ⟨y,hy,he⟩
   obtain ⟨z,hz,rfl⟩:=NE.1 hy;obtain ⟨j,h1,h2,rfl⟩:=cC.1 hz;have:[x.1,x.2]=[(l[j]!).2.1,(l[j]!).2.2]:=by simpa using he
   injection this with e1 e2;injection e2 with e2 _;exact ⟨j,h1,h2,aal e1.symm e2.symm⟩
 rintro ⟨j,h1,h2,h3⟩
 refine ⟨[(l[j]!).2.1,(l[j]!).2.2],NE.2 ⟨l[j]!,cC.2 ⟨j,h1,h2,rfl⟩,rfl⟩,?_⟩;rw [h3];simp
theorem tD (c:bm):oj c=aeA (if eQ c then 0 else 8):=by
 unfold oj;simp only [aA]
 by_cases h1:200<aez c.ce
 · rw [aG (show (200:Int)<((aez c.ce):Int) by omega),ut (fun h=>by have:=h.len;omega)];rfl
 rw [aE (show¬(200:Int)<((aez c.ce):Int) by omega)]
 by_cases h2:c.aM<0
 · rw [aG h2,ut (fun h=>by have:=h.n0;omega)];rfl
 rw [aE h2]
 by_cases h3:1000000<c.aM
 · rw [aG h3,ut (fun h=>by have:=h.n1;omega)];rfl
 rw [aE h3];simp only [pp];have key:=ff (body:=oQ) (fun i=>(xM c.ce i,c.ce,((aez c.ce):Int),(i:Int),c.aM,c.ce,(c.ce.take i).map fun x=>[x.2.1,x.2.2])) (aez c.ce) (fun i=> ¬M3 c i) (r:=8) (e:=0) (fun i hi=>by
  have e1:aeD ((i:Int)<((aez c.ce):Int))=aeB:=aG (by omega);have has:J0 ((c.ce.take i).map fun x=>[x.2.1,x.2.2]) [(c.ce[i]!).2.1,(c.ce[i]!).2.2]=aeA (aeD (∃j,j<i/\j<aez c.ce/\(c.ce[j]!).2=(c.ce[i]!).2)):=by unfold J0;rw [Fw,Fx];rfl
  have nx:(c.ce.take (i+1)).map (fun x=>[x.2.1,x.2.2])=((c.ce.take i).map fun x=>[x.2.1,x.2.2])++[[(c.ce[i]!).2.1,(c.ce[i]!).2.2]]:=by rw [fE hi,List.map_append];rfl
  have ln:xM c.ce (i+1)=(c.ce[i]!).1:=by unfold xM;rw [ut (by omega),show i+1-1=i by omega]
  unfold oQ;simp only [e1,lw,au c.ce i hi,aj,zh,has,nx,ln,ba (show i<1000000000 by omega)];unfold M3
  by_cases b1:fi (c.ce[i]!).2
  case neg=>rw [aE b1];exact ⟨fun _=>rfl,fun h=>absurd (ww.1 h).1 b1⟩
  rw [aG b1]
  by_cases b2: ∃j,j<i/\j<aez c.ce/\(c.ce[j]!).2=(c.ce[i]!).2
  · rw [aG b2]
    refine ⟨fun _=>rfl,fun h=>?_⟩;obtain ⟨j,j1,j2,j3⟩:=b2;exact absurd j3 ((ww.1 h).2.1 j j1)
  rw [aE b2];have b2': ∀j,j<i->(c.ce[j]!).2≠(c.ce[i]!).2:=fun j hj he=>b2 ⟨j,hj,by omega,he⟩
  by_cases b3:(c.ce[i]!).1<=xM c.ce i
  · rw [aG b3]
    exact ⟨fun _=>rfl,fun h=>absurd (ww.1 h).2.2.1 (by omega)⟩
  rw [aE b3]
  by_cases b4:c.aM<=(c.ce[i]!).1
  · rw [aG b4]
    exact ⟨fun _=>rfl,fun h=>absurd (ww.1 h).2.2.2 (by omega)⟩
  rw [aE b4];have ins:J1 ((c.ce.take i).map fun x=>[x.2.1,x.2.2]) [(c.ce[i]!).2.1,(c.ce[i]!).2.2]=aeA (((c.ce.take i).map fun x=>[x.2.1,x.2.2])++[[(c.ce[i]!).2.1,(c.ce[i]!).2.2]]):=by unfold J1 Mb;rw [Fw,Fx,aE b2];rfl
  rw [ins];exact ⟨fun h=>absurd ⟨b1,b2',by omega,by omega⟩ h,fun _=>rfl⟩) (by
  unfold oQ;have:aeD (((aez c.ce):Int)<((aez c.ce):Int))=aeC:=aE (by omega);simp only [this,pp])
 have h0:xM c.ce 0= -1:=rfl;rw [h0] at key
 by_cases ok:eQ c
 · rw [rc ok]
   exact key.2 fun i hi=>ww.2 ((eQ.iff (by omega) (by omega) (by omega)).1 ok i hi)
 rw [ut ok]
 rw [eQ.iff (by omega) (by omega) (by omega)] at ok;obtain ⟨i,h⟩:=WF.1 ok;obtain ⟨hi,hx⟩:=aau.1 h;exact key.1 ⟨i,hi,hx⟩
theorem KT (c:bm) (i:Nat) (hi:i<aez c.ce) (hl:(aez c.ce)<=200):
 ((∃j,j<i/\(c.ce[j]!).2=(c.ce[i]!).2)->ar fD ((i:Int),0,c.aM,c.ce,c.ce[i]!)=aeA (.done 8))/\
 ((∀j,j<i-> ¬(c.ce[j]!).2=(c.ce[i]!).2)->ar fD ((i:Int),0,c.aM,c.ce,c.ce[i]!)=aeA (.next (((i+1:Nat):Int),c.aM,c.ce))):=by
 refine ff (body:=fD) (fun j=>((i:Int),(j:Int),c.aM,c.ce,c.ce[i]!)) i (fun j=>(c.ce[j]!).2=(c.ce[i]!).2) (r:= .done 8) (e:= .next (((i+1:Nat):Int),c.aM,c.ce)) (fun j hj=>?_) ?_
 · have e1:aeD ((j:Int)<(i:Int))=aeB:=aG (by omega)
   unfold fD;simp only [e1,lw,au c.ce j (by omega),aj,ba (show j<1000000000 by omega)];generalize c.ce[j]! =x;generalize c.ce[i]! =y;constructor
   · intro h;rw [eT (congrArg aex h),eT (congrArg aey h)];rfl
   intro h
   by_cases h1:x.2.1=y.2.1
   · rw [eT h1,eu (fun h2=>h (aal h1 h2))];rfl
   rw [eu h1];rfl
 unfold fD
 have:aeD ((i:Int)<(i:Int))=aeC:=aE (by omega);simp only [this,pp,ba (show i<1000000000 by omega)]
theorem Fy (c:bm):xz c=aeA (if eQ c then 0 else 8):=by
 unfold xz;simp only [aA]
 by_cases h1:200<aez c.ce
 · rw [aG (show (200:Int)<((aez c.ce):Int) by omega),ut (fun h=>by have:=h.len;omega)];rfl
 rw [aE (show¬(200:Int)<((aez c.ce):Int) by omega)]
 by_cases h2:c.aM<0
 · rw [aG h2,ut (fun h=>by have:=h.n0;omega)];rfl
 rw [aE h2]
 by_cases h3:1000000<c.aM
 · rw [aG h3,ut (fun h=>by have:=h.n1;omega)];rfl
 rw [aE h3];simp only [pp];have key:=ff (body:=nA) (fun i=>((i:Int),c.aM,c.ce)) (aez c.ce) (fun i=> ¬(fi (c.ce[i]!).2/\0<=(c.ce[i]!).1/\(c.ce[i]!).1<c.aM/\(0<i->(c.ce[i-1]!).1<(c.ce[i]!).1)/\ ∀j,j<i-> ¬(c.ce[j]!).2=(c.ce[i]!).2)) (r:=8) (e:=0) (fun i hi=>by
  have e1:aeD ((i:Int)<((aez c.ce):Int))=aeB:=aG (by omega);have l1:=KT c i hi (by omega);unfold nA;simp only [aA,e1,lw,au c.ce i hi,aj,zi]
  by_cases b1:fi (c.ce[i]!).2
  case neg=>rw [aE b1];exact ⟨fun _=>rfl,fun h=>absurd (ww.1 h).1 b1⟩
  rw [aG b1]
  by_cases b2:(c.ce[i]!).1<0
  · rw [aG b2]
    exact ⟨fun _=>rfl,fun h=>absurd (ww.1 h).2.1 (by omega)⟩
  rw [aE b2]
  by_cases b3:c.aM<=(c.ce[i]!).1
  · rw [aG b3]
    exact ⟨fun _=>rfl,fun h=>absurd (ww.1 h).2.2.1 (by omega)⟩
  rw [aE b3];simp only [AC,pp];have go:(0<i->(c.ce[i-1]!).1<(c.ce[i]!).1)->(¬(fi (c.ce[i]!).2/\0<=(c.ce[i]!).1/\(c.ce[i]!).1<c.aM/\(0<i->(c.ce[i-1]!).1<(c.ce[i]!).1)/\ ∀j,j<i-> ¬(c.ce[j]!).2=(c.ce[i]!).2)->ar fD ((i:Int),0,c.aM,c.ce,c.ce[i]!)=aeA (.done 8))/\
   (¬¬(fi (c.ce[i]!).2/\0<=(c.ce[i]!).1/\(c.ce[i]!).1<c.aM/\(0<i->(c.ce[i-1]!).1<(c.ce[i]!).1)/\ ∀j,j<i-> ¬(c.ce[j]!).2=(c.ce[i]!).2)->ar fD ((i:Int),0,c.aM,c.ce,c.ce[i]!)=aeA (.next (((i+1:Nat):Int),c.aM,c.ce))):=by
   intro hp;constructor
   · intro h
     refine l1.1 (Classical.byContradiction fun hx=>h ⟨b1,by omega,by omega,hp,fun j hj he=>hx ⟨j,hj,he⟩⟩)
   intro h
   exact l1.2 (ww.1 h).2.2.2.2
  by_cases b4:0<i
  · have f1:aeD ((0:Int)<(i:Int))=aeB:=aG (by omega)
    simp only [f1,lw,nI (show i<1000000000 by omega) b4,au c.ce (i-1) (by omega),aj]
    by_cases b5:(c.ce[i]!).1<=(c.ce[i-1]!).1
    · rw [aG b5]
      exact ⟨fun _=>rfl,fun h=>absurd ((ww.1 h).2.2.2.1 b4) (by omega)⟩
    rw [aE b5]
    exact go fun _=>by omega
  · have f1:aeD ((0:Int)<(i:Int))=aeC:=aE (by omega)
    rw [f1];exact go fun h=>absurd h b4) (by
  unfold nA;have:aeD (((aez c.ce):Int)<((aez c.ce):Int))=aeC:=aE (by omega);simp only [aA,this,pp])
 have same:eQ c↔ ∀i,i<aez c.ce->(fi (c.ce[i]!).2/\0<=(c.ce[i]!).1/\(c.ce[i]!).1<c.aM/\(0<i->(c.ce[i-1]!).1<(c.ce[i]!).1)/\ ∀j,j<i-> ¬(c.ce[j]!).2=(c.ce[i]!).2):=by
  constructor
  · intro ok i hi
    exact ⟨ok.cv i hi,(ok.nr i hi).1,(ok.nr i hi).2,fun h=>ok.up (i-1) i (by omega) hi,fun j hj=>ok.nd j i hj hi⟩
  intro h
  rw [eQ.iff (by omega) (by omega) (by omega)];intro i hi;obtain ⟨a1,a2,a3,a4,a5⟩:=h i hi;refine ⟨a1,a5,?_,a3⟩;unfold xM;split
  · omega
  exact a4 (by omega)
 by_cases ok:eQ c
 · rw [rc ok]
   exact key.2 fun i hi=>ww.2 (same.1 ok i hi)
 rw [ut ok]
 rw [same] at ok;obtain ⟨i,h⟩:=WF.1 ok;obtain ⟨hi,hx⟩:=aau.1 h;exact key.1 ⟨i,hi,hx⟩
def wG (l:List pX) (x:Int×Int):Prop:= ∃i,i<aez l/\(l[i]!).2=x
theorem Fz (l:List pX) (x:Int×Int) (hl:(aez l)<=1000000):cm l x=aeA (aeD (wG l x)):=by
 unfold cm fq;have key:=iG (body:=de) (fun i=>(l,x.1,x.2,((aez l):Int),(i:Int))) (aez l) (fun i=>(l[i]!).2=x) (fun i=>(i:Int)) (e:= -1) (fun i hi=>by
  have e1:aeD ((i:Int)<((aez l):Int))=aeB:=aG (by omega);unfold de zV;simp only [e1,lw,au l i hi,aj,ba (show i<1000000000 by omega)];generalize l[i]! =y;constructor
  · intro h;rw [eT (congrArg aex h),eT (congrArg aey h)];rfl
  · intro h
    by_cases h1:y.2.1=x.1
    · rw [eT h1,eu (fun h2=>h (aal h1 h2))];rfl
    rw [eu h1];rfl) (by
  unfold de;have:aeD (((aez l):Int)<((aez l):Int))=aeC:=aE (by omega);simp only [this,pp])
 rw [aA]
 by_cases hx:wG l x
 · obtain ⟨k,h1,h2,h3⟩:=least hx
   have:=key.1 k h1 h2 h3;rw [show ((0:Nat):Int)=0 from rfl] at this;rw [this,aG hx];simp only [aj,aG (show (0:Int)<=(k:Int) by omega)]
 have:=key.2 fun i hi he=>hx ⟨i,hi,he⟩
 rw [show ((0:Nat):Int)=0 from rfl] at this;rw [this,aE hx];rfl
theorem uF:dL=cm:=rfl
theorem Bh (c:bm) (x:Int×Int) (hl:(aez c.ce)<=1000000):yw c x=aeA (aeD (wG c.ce x)):=by
 unfold yw;have key:=ff (body:=qv) (fun i=>((i:Int),c.aM,c.ce,x)) (aez c.ce) (fun i=>(c.ce[i]!).2=x) (r:=aeB) (e:=aeC) (fun i hi=>by
  have e1:aeD ((i:Int)<((aez c.ce):Int))=aeB:=aG (by omega);unfold qv;simp only [aA,e1,lw,au c.ce i hi,aj,ba (show i<1000000000 by omega)];generalize c.ce[i]! =y;constructor
  · intro h;rw [eT (congrArg aex h),eT (congrArg aey h)];rfl
  · intro h
    by_cases h1:y.2.1=x.1
    · rw [eT h1,eu (fun h2=>h (aal h1 h2))];rfl
    rw [eu h1];rfl) (by
  unfold qv;have:aeD (((aez c.ce):Int)<((aez c.ce):Int))=aeC:=aE (by omega);simp only [aA,this,pp])
 by_cases hx:wG c.ce x
 · rw [aG hx];exact key.1 hx
 rw [aE hx];exact key.2 fun i hi he=>hx ⟨i,hi,he⟩
def mg (c:bm) (x:Int×Int):bm:=⟨c.aM+1,c.ce++[(c.aM,x)]⟩
def zj (c:bm):Prop:=aez c.ce=200\/c.aM=1000000
theorem KU {c:bm} (ok:eQ c) {x:Int×Int} (hx:fi x):A' c x=aeA (if wG c.ce x then (⟨0,[]⟩,0,14) else if zj c then (⟨0,[]⟩,0,18) else (mg c x,c.aM,0)):=by
 have:=ok.len;have:=ok.n0;have:=ok.n1;unfold A';rw [tD,rc ok,zh,aG hx,Fz _ _ (by omega)];simp only [aj,show ((0:Int) !=0)=aeC from rfl,pp,AC,aA]
 by_cases h1:wG c.ce x
 · rw [aG h1,rc h1];rfl
 rw [aE h1,ut h1];unfold zj
 by_cases h2:(aez c.ce)=200
 · rw [eT (show ((aez c.ce):Int)=200 by omega),rc (.inl h2)];rfl
 rw [eu (show¬((aez c.ce):Int)=200 by omega)]
 by_cases h3:c.aM=1000000
 · rw [eT h3,rc (.inr h3)];rfl
 rw [eu h3,ut (by omega)];have e:aa .i64 (c.aM+1)=c.aM+1:=by rw [wi];omega
 simp only [pp,aW (show (aez c.ce)<=1048576 by omega),aj,cZ (show (aez c.ce)+[(c.aM,x)].length<=1048576 by simp;omega),e];rfl
theorem IT {c:bm} (ok:eQ c) {x:Int×Int} (hx:fi x):Cf c x=aeA (if wG c.ce x then (⟨0,[]⟩,0,14) else if zj c then (⟨0,[]⟩,0,18) else (mg c x,c.aM,0)):=by
 have:=ok.len;have:=ok.n0;have:=ok.n1;unfold Cf vE;rw [Fy,rc ok,zi,aG hx,Bh _ _ (by omega)];simp only [aj,show ((0:Int) !=0)=aeC from rfl,pp,AC,aA]
 by_cases h1:wG c.ce x
 · rw [aG h1,rc h1];rfl
 rw [aE h1,ut h1];unfold zj
 by_cases h2:(aez c.ce)=200
 · rw [eT (show ((aez c.ce):Int)=200 by omega),rc (.inl h2)];rfl
 rw [eu (show¬((aez c.ce):Int)=200 by omega)]
 by_cases h3:c.aM=1000000
 · rw [eT h3,rc (.inr h3)];rfl
 rw [eu h3,ut (by omega)];have e:aa .i64 (c.aM+1)=c.aM+1:=by rw [wi];omega
 simp only [pp,aW (show (aez c.ce)<=1048576 by omega),aj,cZ (show (aez c.ce)+[(c.aM,x)].length<=1048576 by simp;omega),e];rfl
theorem rz {c:bm} {x:Int×Int} {i:Nat}:(mg c x).ce[i]! =if i<(aez c.ce) then c.ce[i]! else if i=(aez c.ce) then (c.aM,x) else default:=by
 show (c.ce++[(c.aM,x)])[i]! =_
 by_cases h:i<aez c.ce
 · rw [rc h,bN h]
 rw [ut h,cV (by omega)]
 by_cases e:i=aez c.ce
 · rw [rc e,e,aaC];rfl
 rw [ut e,getElem!_neg _ _ (by simp;omega)]
theorem yG {c:bm} {x:Int×Int}:(mg c x).ce.length=aez c.ce+1:=by show (c.ce++[(c.aM,x)]).length=_;simp
theorem M4 {c:bm} (ok:eQ c) {x:Int×Int} (hx:fi x) (hn: ¬wG c.ce x) (hf: ¬zj c):eQ (mg c x):=by
 have h1:=ok.len;have h2:=ok.n0;have h3:=ok.n1;unfold zj at hf;refine ⟨by rw [yG];omega,by show 0<=c.aM+1;omega,by show c.aM+1<=1000000;omega,?_,?_,?_,?_⟩
 · intro i hi
   rw [yG] at hi;rw [rz]
   by_cases h:i<aez c.ce
   · rw [rc h];exact ok.cv i h
   rw [ut h,rc (by omega)];exact hx
 · intro i hi
   rw [yG] at hi;rw [rz];show 0<=_/\_<c.aM+1
   by_cases h:i<aez c.ce
   · rw [rc h];have:=ok.nr i h;omega
   rw [ut h,rc (by omega)];dsimp only;omega
 · intro i j kL hj
   rw [yG] at hj;rw [rz,rz,rc (by omega)]
   by_cases h:j<aez c.ce
   · rw [rc h];exact ok.up i j kL h
   rw [ut h,rc (by omega)]
   exact (ok.nr i (by omega)).2
 intro i j kL hj
 rw [yG] at hj;rw [rz,rz,rc (by omega)]
 by_cases h:j<aez c.ce
 · rw [rc h];exact ok.nd i j kL h
 rw [ut h,rc (by omega)]
 exact fun he=>hn ⟨i,by omega,he⟩
def mh (c:bm) (k:Nat):bm:=⟨c.aM,c.ce.eraseIdx k⟩
theorem yH {α:Type} {l:List α} {k:Nat} (hk:k<aez l):(l.eraseIdx k).length=aez l-1:=by rw [List.length_eraseIdx,rc hk]
theorem FA {c:bm} (ok:eQ c) {k:Nat} (hk:k<aez c.ce):eQ (mh c k):=by
 have h1:=ok.len;have len:(mh c k).ce.length=aez c.ce-1:=yH hk;have cell: ∀i,∃j,i<=j/\j<=i+1/\(i<aez c.ce-1->j<aez c.ce)/\(mh c k).ce[i]! =c.ce[j]!/\(i<k->j=i)/\(k<=i->j=i+1):=by
  intro i
  by_cases h:i<k
  · exact ⟨i,by omega,by omega,by omega,by show (c.ce.eraseIdx k)[i]! =_;rw [vR,rc h],fun _=>rfl,by omega⟩
  exact ⟨i+1,by omega,by omega,by omega,by show (c.ce.eraseIdx k)[i]! =_;rw [vR,ut h],by omega,fun _=>rfl⟩
 refine ⟨by omega,ok.n0,ok.n1,?_,?_,?_,?_⟩
 · intro i hi
   obtain ⟨j,j1,j2,j3,j4,j5,j6⟩:=cell i;rw [j4];exact ok.cv j (j3 (by omega))
 · intro i hi
   obtain ⟨j,j1,j2,j3,j4,j5,j6⟩:=cell i;rw [j4];exact ok.nr j (j3 (by omega))
 · intro i i' kL hi
   obtain ⟨j,j1,j2,j3,j4,j5,j6⟩:=cell i;obtain ⟨m,m1,m2,m3,m4,m5,m6⟩:=cell i';rw [j4,m4];exact ok.up j m (by omega) (m3 (by omega))
 intro i i' kL hi
 obtain ⟨j,j1,j2,j3,j4,j5,j6⟩:=cell i;obtain ⟨m,m1,m2,m3,m4,m5,m6⟩:=cell i';rw [j4,m4];exact ok.nd j m (by omega) (m3 (by omega))
theorem xN {c:bm} (ok:eQ c) {k:Nat} (hk:k<aez c.ce) {n:Int} (hn:(c.ce[k]!).1=n):sx c n=aeA (mh c k,(c.ce[k]!).2,0):=by have h1:=ok.len;unfold sx B';obtain ⟨L,d1,d2⟩:=sJ c.ce k hk;rw [tD,rc ok,(oX c.ce n (by omega) ok.up).1 k hk hn];simp only [aj,show ((0:Int) !=0)=aeC from rfl,pp,AC,aW (show (aez c.ce)<=1048576 by omega),ba (show k<1000000000 by omega),d1,au c.ce k hk,d2];rfl
theorem IU {l:List pX} {k:Nat} (hk:k<aez l) (hs: ∀i j,i<j->j<aez l->(l[i]!).1<(l[j]!).1) {n:Int} (hn:(l[k]!).1=n):l.filter (fun x=>x.1 !=n)=l.eraseIdx k:=by
 rw [ry];have e:l.filter (fun x=>x.1 !=n)=(l.take k++l[k]!::l.drop (k+1)).filter (fun x=>x.1 !=n):=congrArg _ (SY hk);rw [e,ad8,List.filter_cons_of_neg (by rw [hn];simp)]
 congr 1
 · rw [ac2]
   intro x hx;obtain ⟨i,h1,h2,rfl⟩:=cC.1 hx;have:=hs i k h1 hk;exact dZ (by omega)
 rw [ac2]
 intro x hx;obtain ⟨i,h1,rfl⟩:=aQ.1 hx;rw [aaz] at h1;rw [lG];have:=hs k (k+1+i) (by omega) (by omega);exact dZ (by omega)
theorem Cn {c:bm} (ok:eQ c) {k:Nat} (hk:k<aez c.ce) {n:Int} (hn:(c.ce[k]!).1=n):tj c n=aeA (mh c k):=by
 have h1:=ok.len;unfold tj;have key:=cB (body:=jq) (fun i=>(n,(i:Int),c.aM,c.ce,0,c.aM,(c.ce.take i).filter (fun x=>x.1 !=n))) (aez c.ce) (fun i hi=>by
  have e1:aeD ((i:Int)<((aez c.ce):Int))=aeB:=aG (by omega);have nx:(c.ce.take (i+1)).filter (fun x=>x.1 !=n)=(c.ce.take i).filter (fun x=>x.1 !=n)++(if (c.ce[i]!).1 !=n then [c.ce[i]!] else []):=by rw [fE hi,ad8,List.filter_cons,List.filter_nil]
  have fl:((c.ce.take i).filter (fun x=>x.1 !=n)).length<=200:=aeu (List.length_filter_le _ _) (by rw [EQ];omega);unfold jq;simp only [aA,e1,lw,au c.ce i hi,aj,ba (show i<1000000000 by omega),nx]
  by_cases h:(c.ce[i]!).1=n
  · rw [cS h];simp
  rw [dZ h]
  simp only [lw,if_true,cZ (show ((c.ce.take i).filter (fun x=>x.1 !=n)).length+[c.ce[i]!].length<=1048576 by simp only [ae6,aeb];omega),aj])
 have fin:jq (n,((aez c.ce):Int),c.aM,c.ce,0,c.aM,(c.ce.take (aez c.ce)).filter (fun x=>x.1 !=n))=aeA (.done (mh c k)):=by unfold jq;have:aeD (((aez c.ce):Int)<((aez c.ce):Int))=aeC:=aE (by omega);simp only [aA,this,pp,List.take_length];rw [IU hk ok.up hn];rfl
 refine Eq.trans ?_ (aC fin);exact key
def fJ (l:List Pt) (id:Int):Prop:= ∃k,k<aez l/\(l[k]!).1=id
noncomputable def iA (l:List Pt) (id:Int):Pt:=if h:fJ l id then l[h.choose]! else (-1,0,0)
theorem Bi {l:List Pt} (hs:eX l) {k:Nat} (hk:k<aez l) {id:Int} (h:(l[k]!).1=id):iA l id=l[k]!:=by have hp:fJ l id:=⟨k,hk,h⟩;unfold iA;rw [dif_pos hp];have:=hp.choose_spec;rw [vL hs this.1 hk (by rw [this.2,h])]
theorem eb {l:List Pt} (ok:bn l) {id:Int} (h:fJ l id):eO (iA l id)/\(iA l id).1=id:=by obtain ⟨k,hk,he⟩:=h;rw [Bi ok.2.2 hk he];exact ⟨ok.2.1 _ (aX hk),he⟩
theorem Co {l:List Pt} {id:Int} (h: ¬fJ l id):iA l id=(-1,0,0):=by unfold iA;rw [dif_neg h]
theorem jt {l:List Pt} (ok:bn l) (id:Int):iD ⟨l⟩ id=aeA (iA l id):=by
 have h1:=ok.1;have bs:=oX l id (by omega) (fun i j=>eh ok.2.2);unfold iD;dsimp only;rw [Ti]
 by_cases h:fJ l id
 · obtain ⟨k,hk,he⟩:=h
   rw [bs.1 k hk he];simp only [aj,AC,pp,au l k hk,Bi ok.2.2 hk he]
 obtain ⟨m,m1,m2,m3,e⟩:=bs.2 (fun k hk he=>h ⟨k,hk,he⟩)
 rw [e,Co h];rfl
theorem IV {l:List Pt} (ok:bn l) {id:Int} (h:fJ l id): ∃k,k<aez l/\nB ⟨l⟩ id=aeA (k:Int)/\l[k]! =iA l id:=by have h1:=ok.1;obtain ⟨k,hk,he⟩:=h;exact ⟨k,hk,PY ok.2.2 (by omega) hk he,(Bi ok.2.2 hk he).symm⟩
def jZ (l:List Pt) (x:Int×Int):Prop:=fJ l x.1/\fJ l x.2
noncomputable def bw (l:List Pt) (x t:Int×Int):(Int×Int)×Bool:=xH (iA l x.2) (iA l x.1) t
theorem oY {l:List Pt} (ok:bn l) {x t:Int×Int} (hx:fi x) (ht:bS t) (h64:nQ t):
 oo ⟨l⟩ x t=aeA (if jZ l x then ((bw l x t).1,(bw l x t).2,0) else ((0,0),aeC,8)):=by
 unfold oo;rw [jt ok,jt ok];simp only [aj,Dd h64];have bad: ¬eO (-1,0,0):=by unfold eO;dsimp only;omega
 by_cases h1:fJ l x.1
 · by_cases h2:fJ l x.2
   · obtain ⟨p1,p2⟩:=eb ok h1
     obtain ⟨q1,q2⟩:=eb ok h2;rw [rc ⟨q1,p1,ht,by rw [p2,q2];exact fun h=>hx.2.2.2.2 h.symm⟩,rc ⟨h1,h2⟩];rfl
   rw [Co h2,ut (fun h=>bad h.1),ut (fun h=>bad h.1),ut (fun h=>h2 h.2)]
 rw [Co h1,ut (fun h=>bad h.2.1),ut (fun h=>bad h.2.1),ut (fun h=>h1 h.1)]
theorem zk {l:List Pt} (ok:bn l) {x t:Int×Int} (h64:nQ t) (hb:jZ l x):vG ⟨l⟩ x t=aeA (bw l x t):=by obtain ⟨h1,h2⟩:=hb;obtain ⟨j,j1,j2,j3⟩:=IV ok h1;obtain ⟨k,k1,k2,k3⟩:=IV ok h2;unfold vG;simp only [j2,k2,aj,au l j j1,au l k k1,j3,k3,MV (eb ok h2).1 (eb ok h1).1 h64];rfl
def bc (l:List Pt) (t:Int×Int) (H:List Ev):List pX->List pX->Prop
 | [],ds=>ds=[]
 |x::cs,ds=>((bw l x.2 t).2=aeB-> ∃d Al,ds=d::Al/\d.1=x.1/\((bw l x.2 t).1.1,(bw l x.2 t).1.2,x.1,d.2)∈H/\bc l t H cs Al)/\((bw l x.2 t).2=aeC->bc l t H cs ds)
structure bg (c:aI):Prop where
 qw:bS c.ci
 gO:nQ c.ci
 j0:bn c.ii.am
 wM:eQ c.af
 nR:fu c.ae
 Gk:(aez c.ae.aq)=200
 hd:(aez c.ae.bv)=aez c.io
 known: ∀i,i<aez c.af.ce->jZ c.ii.am (c.af.ce[i]!).2
 Df:bc c.ii.am c.ci c.ae.bv c.af.ce c.io
structure uG (c:aI):Prop where
 gO:nQ c.ci
 ag:zf c.ae
 du:(aez c.io)<=1000000
theorem ahq {a:aF} (ok:fu a) (w2:(aez a.aq)=200) (t:Int×Int) (n:Int) (h:Int×Int):
 (0<=h.1/\h.1<200/\0<=a.aq[h.1.toNat]!/\a.bv[(a.aq[h.1.toNat]!).toNat]! =(t.1,t.2,n,h))↔((t.1,t.2,n,h):Ev)∈a.bv:=by
 have wl:=ok.wl;have hu:=ok.so.ul;constructor
 · rintro ⟨h1,h2,h3,h4⟩
   cases hb:a.ai.be[h.1.toNat]! with
   |false=>have:=ok.un h.1.toNat (by omega) hb;omega
   |true=>have:=ok.fwd h.1.toNat (by omega) hb;rw [<- h4];exact aX (by omega)
 intro hm
 obtain ⟨w,hw,he⟩:=aQ.1 hm;obtain ⟨b1,b2,b3,b4,b5⟩:=ok.back hw;have e:Ev.ix a.bv[w]! =h.1:=by rw [he]
 have e2:Ev.n a.bv[w]! =h.1.toNat:=by rw [he]
 rw [e] at b1 b2;rw [e2] at b5;refine ⟨b1,by omega,by omega,?_⟩;rw [b5,M2,he]
theorem Tj {a:aF} (ok:fu a) {i:Nat} (hi:i<aez a.ai.aD) (h:0<=a.aq[i]!):a.aq[i]!<(aez a.bv):=by
 cases hb:a.ai.be[i]! with
 |false=>have:=ok.un i hi hb;omega
 |true=>exact (ok.fwd i hi hb).2.1
theorem uH {α:Type} [Inhabited α] {l:List α} {i:Nat} (h:i<aez l):l.drop i=l[i]!::l.drop (i+1):=by rw [getElem!_pos l i h];exact List.drop_eq_getElem_cons h
theorem KV {c:aI} (qw:bS c.ci) (gO:nQ c.ci) (j0:bn c.ii.am) (wM:eQ c.af) (nR:fu c.ae) (w2:(aez c.ae.aq)=200):
 ∀(d i:Nat) (ds:List pX),aez c.af.ce-i<=d->i<=aez c.af.ce->aez ds<=1000000->
  ar cJ (ds,c.af.ce,((aez c.af.ce):Int),(i:Int),c.ci.1,c.ci.2,c.ii.am,c.af.aM,c.af.ce,c.ae.ai.aD,c.ae.ai.be,c.ae.ai.bi,c.ae.bv,c.ae.aq,c.io)=
   aeA (.done (if (∀j,i<=j->j<aez c.af.ce->jZ c.ii.am (c.af.ce[j]!).2)/\bc c.ii.am c.ci c.ae.bv (c.af.ce.drop i) ds then 0 else 8)):=by
 have hl:=wM.len;have wl:=nR.wl;have fin: ∀(ds:List pX),ar cJ (ds,c.af.ce,((aez c.af.ce):Int),((aez c.af.ce):Int),c.ci.1,c.ci.2,c.ii.am,c.af.aM,c.af.ce,c.ae.ai.aD,c.ae.ai.be,c.ae.ai.bi,c.ae.bv,c.ae.aq,c.io)=aeA (.done (if ds=[] then 0 else 8)):=by
  intro ds;refine aC ?_;unfold cJ;have e1:aeD (((aez c.af.ce):Int)<((aez c.af.ce):Int))=aeC:=aE (by omega);simp only [aA,e1,pp];cases ds with
  |nil=>rw [aE (by simp),rc rfl];rfl
  |cons d ds=>rw [aG (by simp),ut (by simp)];rfl
 intro d
 induction d with
 |zero=>
  intro i ds hd hi Ug;have:i=(aez c.af.ce):=by omega
  subst this;rw [fin ds,ae8];have:((∀j,aez c.af.ce<=j->j<aez c.af.ce->jZ c.ii.am (c.af.ce[j]!).2)/\bc c.ii.am c.ci c.ae.bv [] ds)↔ds=[]:=⟨fun h=>h.2,fun h=>⟨fun j h1 h2=>by omega,h⟩⟩
  by_cases h:ds=[]
  · rw [rc h,rc (this.2 h)]
  rw [ut h,ut (fun k=>h (this.1 k))]
 |succ d ih=>
  intro i ds hd hi Ug
  by_cases he:i=aez c.af.ce
  · subst he
    rw [fin ds,ae8];have:((∀j,aez c.af.ce<=j->j<aez c.af.ce->jZ c.ii.am (c.af.ce[j]!).2)/\bc c.ii.am c.ci c.ae.bv [] ds)↔ds=[]:=⟨fun h=>h.2,fun h=>⟨fun j h1 h2=>by omega,h⟩⟩
    by_cases h:ds=[]
    · rw [rc h,rc (this.2 h)]
    rw [ut h,ut (fun k=>h (this.1 k))]
  have tY:i<(aez c.af.ce):=by omega
  have e1:aeD ((i:Int)<((aez c.af.ce):Int))=aeB:=aG (by omega);have hw:=oY j0 (x:=(c.af.ce[i]!).2) (t:=(c.ci.1,c.ci.2)) (wM.cv i tY) qw gO;have dr:=uH tY;have all:(∀j,i<=j->j<aez c.af.ce->jZ c.ii.am (c.af.ce[j]!).2)↔(jZ c.ii.am (c.af.ce[i]!).2/\ ∀j,i+1<=j->j<aez c.af.ce->jZ c.ii.am (c.af.ce[j]!).2):=by
   constructor
   · intro h;exact ⟨h i (Do _) tY,fun j h1 h2=>h j (by omega) h2⟩
   rintro ⟨h1,h2⟩ j h3 h4
   by_cases e:j=i
   · rw [e];exact h1
   exact h2 j (by omega) h4
  have sc:=ba (show i<1000000000 by omega)
  by_cases hb:jZ c.ii.am (c.af.ce[i]!).2
  case neg=>rw [ut (fun h=>hb (all.1 h.1).1)];refine aC ?_;unfold cJ;simp only [e1,lw,au c.af.ce i tY,aj,hw,ut hb];rfl
  rw [rc hb] at hw
  by_cases is:(bw c.ii.am (c.af.ce[i]!).2 c.ci).2=aeB
  case neg=>
   have is':(bw c.ii.am (c.af.ce[i]!).2 c.ci).2=aeC:=by simpa using is
   rw [aV (y:=(ds,c.af.ce,((aez c.af.ce):Int),((i+1:Nat):Int),c.ci.1,c.ci.2,c.ii.am,c.af.aM,c.af.ce,c.ae.ai.aD,c.ae.ai.be,c.ae.ai.bi,c.ae.bv,c.ae.aq,c.io)) (by unfold cJ;simp only [e1,lw,au c.af.ce i tY,aj,hw,sc,is',show ((0:Int) !=0)=aeC from rfl,pp,ac0]),ih (i+1) ds (by omega) (by omega) Ug];have same:((∀j,i<=j->j<aez c.af.ce->jZ c.ii.am (c.af.ce[j]!).2)/\bc c.ii.am c.ci c.ae.bv (c.af.ce.drop i) ds)↔((∀j,i+1<=j->j<aez c.af.ce->jZ c.ii.am (c.af.ce[j]!).2)/\bc c.ii.am c.ci c.ae.bv (c.af.ce.drop (i+1)) ds):=by
    rw [dr,all];constructor
    · rintro ⟨⟨_,h1⟩,h2⟩;exact ⟨h1,h2.2 is'⟩
    rintro ⟨h1,h2⟩;exact ⟨⟨hb,h1⟩,fun h=>absurd h is,fun _=>h2⟩
   simp only [same]
  have stop:(¬((∀j,i<=j->j<aez c.af.ce->jZ c.ii.am (c.af.ce[j]!).2)/\bc c.ii.am c.ci c.ae.bv (c.af.ce.drop i) ds))->cJ (ds,c.af.ce,((aez c.af.ce):Int),(i:Int),c.ci.1,c.ci.2,c.ii.am,c.af.aM,c.af.ce,c.ae.ai.aD,c.ae.ai.be,c.ae.ai.bi,c.ae.bv,c.ae.aq,c.io)=aeA (.done (.done 8))->ar cJ (ds,c.af.ce,((aez c.af.ce):Int),(i:Int),c.ci.1,c.ci.2,c.ii.am,c.af.aM,c.af.ce,c.ae.ai.aD,c.ae.ai.be,c.ae.ai.bi,c.ae.bv,c.ae.aq,c.io)=
   aeA (.done (if (∀j,i<=j->j<aez c.af.ce->jZ c.ii.am (c.af.ce[j]!).2)/\bc c.ii.am c.ci c.ae.bv (c.af.ce.drop i) ds then 0 else 8)):=by
   intro h1 h2;rw [ut h1];exact aC h2
  cases ds with
  |nil=>
   refine stop (fun h=>?_) ?_
   · rw [dr] at h
     obtain ⟨d,Al,h1,_⟩:=h.2.1 is;cases h1
   unfold cJ
   simp only [e1,lw,au c.af.ce i tY,aj,hw,is,show ((0:Int) !=0)=aeC from rfl,pp,AC];rfl
  |cons d0 ds=>
   have l0:((((d0::ds).length:Nat):Int)==0)=aeC:=eu (by simp;omega);have g0:aH (d0::ds) 0=aeA d0:=rfl;have Df: ∀P:Prop,(P↔d0.1=(c.af.ce[i]!).1/\(((bw c.ii.am (c.af.ce[i]!).2 c.ci).1.1,(bw c.ii.am (c.af.ce[i]!).2 c.ci).1.2,(c.af.ce[i]!).1,d0.2):Ev)∈c.ae.bv)-> ¬P-> ¬((∀j,i<=j->j<aez c.af.ce->jZ c.ii.am (c.af.ce[j]!).2)/\bc c.ii.am c.ci c.ae.bv (c.af.ce.drop i) (d0::ds)):=by intro P hP hn h;rw [dr] at h;obtain ⟨d,Al,h1,h2,h3,_⟩:=h.2.1 is;injection h1 with h1 _;subst h1;exact hn (hP.2 ⟨h2,h3⟩)
   by_cases b1:d0.1=(c.af.ce[i]!).1
   case neg=>refine stop (Df (d0.1=(c.af.ce[i]!).1/\_) aaB (fun h=>b1 h.1)) ?_;unfold cJ;simp only [aA,e1,lw,au c.af.ce i tY,aj,hw,is,show ((0:Int) !=0)=aeC from rfl,pp,AC,l0,g0,dZ b1]
   have ea:=ahq nR w2 (bw c.ii.am (c.af.ce[i]!).2 c.ci).1 (c.af.ce[i]!).1 d0.2
   by_cases b2:d0.2.1<0
   · refine stop (Df (d0.1=(c.af.ce[i]!).1/\_) aaB (fun h=>by have:=(ea.2 h.2).1;omega)) ?_
     unfold cJ;simp only [aA,e1,lw,au c.af.ce i tY,aj,hw,is,show ((0:Int) !=0)=aeC from rfl,pp,AC,l0,g0,cS b1,aG b2]
   by_cases b3:200<=d0.2.1
   · refine stop (Df (d0.1=(c.af.ce[i]!).1/\_) aaB (fun h=>by have:=(ea.2 h.2).2.1;omega)) ?_
     unfold cJ;simp only [aA,e1,lw,au c.af.ce i tY,aj,hw,is,show ((0:Int) !=0)=aeC from rfl,pp,AC,l0,g0,cS b1,aE b2,aG b3]
   have gw:=eG (l:=c.ae.aq) (i:=d0.2.1) (by omega) (by omega)
   by_cases b4:c.ae.aq[d0.2.1.toNat]!<0
   · refine stop (Df (d0.1=(c.af.ce[i]!).1/\_) aaB (fun h=>by have:=(ea.2 h.2).2.2.1;omega)) ?_
     unfold cJ;simp only [aA,e1,lw,au c.af.ce i tY,aj,hw,is,show ((0:Int) !=0)=aeC from rfl,pp,AC,l0,g0,cS b1,aE b2,aE b3,gw,aG b4]
   have gh:=eG (l:=c.ae.bv) (i:=c.ae.aq[d0.2.1.toNat]!) (by omega) (Tj nR (by omega) (by omega));have sl:fL (d0::ds) 1 ((((d0::ds).length:Nat):Int))=aeA ds:=by unfold fL;rw [rc ⟨by omega,by simp;omega,by omega⟩];simp
   have evq: ∀(e:Ev) (p:Int×Int) (n:Int) (h:Int×Int),((e.1==p.1)&&((e.2.1==p.2)&&((e.2.2.1==n)&&((e.2.2.2.1==h.1)&&(e.2.2.2.2==h.2)))))=aeD (e=(p.1,p.2,n,h)):=by
    intro e p n h;rw [aeh,decide_eq_true_iff];simp only [Bool.and_eq_true,beq_iff_eq];constructor
    · rintro ⟨h1,h2,h3,h4,h5⟩
      exact aal h1 (aal h2 (aal h3 (aal h4 h5)))
    intro h;rw [h];exact ⟨rfl,rfl,rfl,rfl,rfl⟩
   have ahr:=evq c.ae.bv[(c.ae.aq[d0.2.1.toNat]!).toNat]! (bw c.ii.am (c.af.ce[i]!).2 c.ci).1 (c.af.ce[i]!).1 d0.2
   by_cases b5:c.ae.bv[(c.ae.aq[d0.2.1.toNat]!).toNat]! =((bw c.ii.am (c.af.ce[i]!).2 c.ci).1.1,(bw c.ii.am (c.af.ce[i]!).2 c.ci).1.2,(c.af.ce[i]!).1,d0.2)
   case neg=>refine stop (Df (d0.1=(c.af.ce[i]!).1/\_) aaB (fun h=>b5 (ea.2 h.2).2.2.2)) ?_;unfold cJ;simp only [aA,e1,lw,au c.af.ce i tY,aj,hw,is,show ((0:Int) !=0)=aeC from rfl,pp,AC,l0,g0,cS b1,aE b2,aE b3,gw,aE b4,gh];rw [ahr,aE b5];rfl
   have Aw:=ea.1 ⟨by omega,by omega,by omega,b5⟩;rw [aV (y:=(ds,c.af.ce,((aez c.af.ce):Int),((i+1:Nat):Int),c.ci.1,c.ci.2,c.ii.am,c.af.aM,c.af.ce,c.ae.ai.aD,c.ae.ai.be,c.ae.ai.bi,c.ae.bv,c.ae.aq,c.io)) (by unfold cJ;simp only [aA,e1,lw,au c.af.ce i tY,aj,hw,is,show ((0:Int) !=0)=aeC from rfl,pp,AC,l0,g0,cS b1,aE b2,aE b3,gw,aE b4,gh,sl,sc];rw [ahr,aG b5];rfl),ih (i+1) ds (by omega) (by omega) (by simp at Ug;omega)];have same:((∀j,i<=j->j<aez c.af.ce->jZ c.ii.am (c.af.ce[j]!).2)/\bc c.ii.am c.ci c.ae.bv (c.af.ce.drop i) (d0::ds))↔((∀j,i+1<=j->j<aez c.af.ce->jZ c.ii.am (c.af.ce[j]!).2)/\bc c.ii.am c.ci c.ae.bv (c.af.ce.drop (i+1)) ds):=by
    rw [dr,all];constructor
    · rintro ⟨⟨_,h1⟩,h2⟩
      obtain ⟨d,Al,k1,k2,k3,k4⟩:=h2.1 is;injection k1 with k1 k5;subst k5;exact ⟨h1,k4⟩
    rintro ⟨h1,h2⟩
    exact ⟨⟨hb,h1⟩,fun _=>⟨d0,ds,rfl,b1,Aw,h2⟩,fun h=>by rw [is] at h;cases h⟩
   simp only [same]
theorem bg.iff {c:aI} (fit:uG c):bg c↔bS c.ci/\bn c.ii.am/\eQ c.af/\fu c.ae/\aez c.ae.aq=200/\aez c.ae.bv=aez c.io/\(∀i,i<aez c.af.ce->jZ c.ii.am (c.af.ce[i]!).2)/\bc c.ii.am c.ci c.ae.bv c.af.ce c.io:=
 ⟨fun h=>⟨h.qw,h.j0,h.wM,h.nR,h.Gk,h.hd,h.known,h.Df⟩,fun ⟨h1,h2,h3,h4,h5,h6,h7,h8⟩=>⟨h1,fit.gO,h2,h3,h4,h5,h6,h7,h8⟩⟩
theorem bg.fit {c:aI} (ok:bg c):uG c:=⟨ok.gO,ok.nR.fit,by have:=ok.hd;have:=ok.nR.bd;omega⟩
theorem KW {c:aI} {n0 n1 n2 n3:Int}:
 ar eE (4,0,c.ci.1,c.ci.2,c.ii.am,c.af.aM,c.af.ce,c.ae.ai.aD,c.ae.ai.be,c.ae.ai.bi,c.ae.bv,c.ae.aq,c.io,[n0,n1,n2,n3])=
  if n0=0/\n1=0/\n2=0/\n3=0 then ar eE (4,4,c.ci.1,c.ci.2,c.ii.am,c.af.aM,c.af.ce,c.ae.ai.aD,c.ae.ai.be,c.ae.ai.bi,c.ae.bv,c.ae.aq,c.io,[n0,n1,n2,n3]) else aeA 8:=by
 have st: ∀(i:Nat) (n:Int),i<4->aH [n0,n1,n2,n3] (i:Int)=aeA n->ar eE (4,(i:Int),c.ci.1,c.ci.2,c.ii.am,c.af.aM,c.af.ce,c.ae.ai.aD,c.ae.ai.be,c.ae.ai.bi,c.ae.bv,c.ae.aq,c.io,[n0,n1,n2,n3])=
  if n=0 then ar eE (4,((i+1:Nat):Int),c.ci.1,c.ci.2,c.ii.am,c.af.aM,c.af.ce,c.ae.ai.aD,c.ae.ai.be,c.ae.ai.bi,c.ae.bv,c.ae.aq,c.io,[n0,n1,n2,n3]) else aeA 8:=by
  intro i n hi hg;have e1:aeD ((i:Int)<4)=aeB:=aG (by omega)
  by_cases h:n=0
  · rw [rc h]
    refine aV ?_;unfold eE;simp only [e1,lw,hg,aj,cS h,pp,ba (show i<1000000000 by omega)]
  rw [ut h]
  refine aC ?_;unfold eE;simp only [e1,lw,hg,aj,dZ h]
 have s0:=st 0 n0 (by omega) rfl;have s1:=st 1 n1 (by omega) rfl;have s2:=st 2 n2 (by omega) rfl;have s3:=st 3 n3 (by omega) rfl;have c0:((0:Nat):Int)=0:=rfl;have c4:((3+1:Nat):Int)=4:=rfl;rw [c0] at s0;rw [c4] at s3;rw [s0]
 by_cases h0:n0=0
 · rw [rc h0,show ((0+1:Nat):Int)=((1:Nat):Int) from rfl,s1]
   by_cases h1:n1=0
   · rw [rc h1,show ((1+1:Nat):Int)=((2:Nat):Int) from rfl,s2]
     by_cases h2:n2=0
     · rw [rc h2,show ((2+1:Nat):Int)=((3:Nat):Int) from rfl,s3]
       by_cases h3:n3=0
       · rw [rc h3,rc ⟨h0,h1,h2,h3⟩]
       rw [ut h3,ut (fun h=>h3 h.2.2.2)]
     rw [ut h2,ut (fun h=>h2 h.2.2.1)]
   rw [ut h1,ut (fun h=>h1 h.2.1)]
 rw [ut h0,ut (fun h=>h0 h.1)]
theorem ju {c:aI} (fit:uG c):fI c=aeA (if bg c then 0 else 8):=by
 unfold fI;rw [eH fit.gO,dU,tD,jY _ fit.ag];simp only [aj];have h4:Int.ofNat [if bS c.ci then (0:Int) else 8,ic c.ii.am,if eQ c.af then (0:Int) else 8,if fu c.ae then (0:Int) else 8].length=4:=rfl;rw [h4,KW];have z: ∀(p:Prop) [Decidable p],(if p then (0:Int) else 8)=0↔p:=fun p _=>by by_cases h:p<;>simp [h]
 simp only [z,fh];have f1:=bg.iff fit
 by_cases ok:bS c.ci/\bn c.ii.am/\eQ c.af/\fu c.ae
 case neg=>rw [ut ok,ut (c:=bg c) (fun h=>ok ⟨h.qw,h.j0,h.wM,h.nR⟩)]
 obtain ⟨qw,j0,wM,nR⟩:=ok;rw [rc ⟨qw,j0,wM,nR⟩]
 by_cases w2:(aez c.ae.aq)=200
 case neg=>rw [ut (c:=bg c) (fun h=>w2 h.Gk)];refine aC ?_;unfold eE;simp only [aA,aE (show¬(4:Int)<4 by omega),pp,dZ (show¬((aez c.ae.aq):Int)=200 by omega),lw]
 by_cases hd:(aez c.ae.bv)=aez c.io
 case neg=>rw [ut (c:=bg c) (fun h=>hd h.hd)];refine aC ?_;unfold eE;simp only [aA,aE (show¬(4:Int)<4 by omega),pp,cS (show ((aez c.ae.aq):Int)=200 by omega),dZ (show¬((aez c.ae.bv):Int)=((aez c.io):Int) by omega),lw]
 have run:=KV qw fit.gO j0 wM nR w2 (aez c.af.ce) 0 c.io (by omega) (by omega) fit.du;rw [List.drop_zero] at run;have same:((∀j,0<=j->j<aez c.af.ce->jZ c.ii.am (c.af.ce[j]!).2)/\bc c.ii.am c.ci c.ae.bv c.af.ce c.io)↔bg c:=by
  rw [f1];constructor
  · rintro ⟨h1,h2⟩;exact ⟨qw,j0,wM,nR,w2,hd,fun i hi=>h1 i (by omega) hi,h2⟩
  rintro ⟨_,_,_,_,_,_,h1,h2⟩;exact ⟨fun j _ hj=>h1 j hj,h2⟩
 simp only [same] at run;refine aC ?_;unfold eE;simp only [aA,aE (show¬(4:Int)<4 by omega),pp,cS (show ((aez c.ae.aq):Int)=200 by omega),cS (show ((aez c.ae.bv):Int)=((aez c.io):Int) by omega)];exact run
section
variable {l : List Pt} {t : Int × Int}
theorem bc.gV {H:List Ev} {x:pX} {cs ds:List pX} (h:(bw l x.2 t).2=aeB):bc l t H (x::cs) ds↔ ∃d Al,ds=d::Al/\d.1=x.1/\(((bw l x.2 t).1.1,(bw l x.2 t).1.2,x.1,d.2):Ev)∈H/\bc l t H cs Al:=
 ⟨fun k=>k.1 h,fun k=>⟨fun _=>k,fun k'=>(by rw [h] at k';cases k')⟩⟩
theorem bc.fQ {H:List Ev} {x:pX} {cs ds:List pX} (h:(bw l x.2 t).2=aeC):bc l t H (x::cs) ds↔bc l t H cs ds:=
 ⟨fun k=>k.2 h,fun k=>⟨fun k'=>(by rw [h] at k';cases k'),fun _=>k⟩⟩
theorem bc.mono {H H':List Ev}: ∀{cs ds:List pX},(∀x∈cs,∀e:Ev,e.num=x.1->e∈H->e∈H')->bc l t H cs ds->bc l t H' cs ds
 | [],_,_,h=>h
 |x::cs,ds,hm,h=>by
  have BM: ∀y∈cs,∀e:Ev,e.num=y.1->e∈H->e∈H':=fun y hy=>hm y (by simp [hy])
  cases hx:(bw l x.2 t).2 with
  |true=>rw [bc.gV hx] at h ⊢;obtain ⟨d,Al,h1,h2,h3,h4⟩:=h;exact ⟨d,Al,h1,h2,hm x (by simp) _ rfl h3,bc.mono BM h4⟩
  |false=>rw [bc.fQ hx] at h ⊢;exact bc.mono BM h
theorem bc.io {H:List Ev}: ∀{cs ds:List pX},bc l t H cs ds-> ∀d∈ds,∃x∈cs,d.1=x.1/\(bw l x.2 t).2=aeB/\(((bw l x.2 t).1.1,(bw l x.2 t).1.2,x.1,d.2):Ev)∈H
 | [],ds,h,d,hd=>by have:ds=[]:=h;subst this;cases hd
 |x::cs,ds,h,d,hd=>by
  cases hx:(bw l x.2 t).2 with
  |true=>
   rw [bc.gV hx] at h;obtain ⟨e,Al,h1,h2,h3,h4⟩:=h;subst h1;rcases acZ.1 hd with rfl|hd
   · exact ⟨x,by simp,h2,hx,h3⟩
   obtain ⟨y,hy,k⟩:=bc.io h4 d hd
   exact ⟨y,by simp [hy],k⟩
  |false=>rw [bc.fQ hx] at h;obtain ⟨y,hy,k⟩:=bc.io h d hd;exact ⟨y,by simp [hy],k⟩
theorem bc.has {H:List Ev}: ∀{cs ds:List pX},bc l t H cs ds-> ∀x∈cs,(bw l x.2 t).2=aeB-> ∃d∈ds,d.1=x.1/\(((bw l x.2 t).1.1,(bw l x.2 t).1.2,x.1,d.2):Ev)∈H
 | [],_,_,x,hx,_=>by cases hx
 |y::cs,ds,h,x,hx,hf=>by
  cases hy:(bw l y.2 t).2 with
  |true=>
   rw [bc.gV hy] at h;obtain ⟨e,Al,h1,h2,h3,h4⟩:=h;subst h1;rcases acZ.1 hx with rfl|hx
   · exact ⟨e,by simp,h2,h3⟩
   obtain ⟨d,hd,k⟩:=bc.has h4 x hx hf
   exact ⟨d,by simp [hd],k⟩
  |false=>
   rw [bc.fQ hy] at h;rcases acZ.1 hx with rfl|hx
   · rw [hf] at hy;cases hy
   exact bc.has h x hx hf
def Up (cs:List pX):Prop:=cs.Pairwise fun x y=>x.1<y.1
theorem oZ {cs:List pX}:Up cs↔ ∀i j,i<j->j<aez cs->(cs[i]!).1<(cs[j]!).1:=by
 unfold Up;rw [List.pairwise_iff_getElem];constructor
 · intro h i j kL hj
   rw [getElem!_pos cs i (by omega),getElem!_pos cs j hj];exact h i j (by omega) hj kL
 intro h i j hi hj kL
 have:=h i j kL hj
 rwa [getElem!_pos cs i hi,getElem!_pos cs j hj] at this
theorem bc.up {H:List Ev}: ∀{cs ds:List pX},bc l t H cs ds->Up cs->Up ds
 | [],ds,h,_=>by have:ds=[]:=h;subst this;exact List.Pairwise.nil
 |x::cs,ds,h,hu=>by
  have Bs:=adc.1 hu;cases hx:(bw l x.2 t).2 with
  |true=>rw [bc.gV hx] at h;obtain ⟨e,Al,h1,h2,h3,h4⟩:=h;subst h1;refine adc.2 ⟨fun d hd=>?_,bc.up h4 Bs.2⟩;obtain ⟨y,hy,k,_⟩:=bc.io h4 d hd;have:=Bs.1 y hy;omega
  |false=>rw [bc.fQ hx] at h;exact bc.up h Bs.2
theorem bc.snoc {H:List Ev}: ∀{cs ds:List pX} {x:pX},bc l t H cs ds->((bw l x.2 t).2=aeC->bc l t H (cs++[x]) ds)/\
 (∀d:pX,(bw l x.2 t).2=aeB->d.1=x.1->(((bw l x.2 t).1.1,(bw l x.2 t).1.2,x.1,d.2):Ev)∈H->bc l t H (cs++[x]) (ds++[d]))
 | [],ds,x,h=>by have:ds=[]:=h;subst this;refine ⟨fun hx=>(bc.fQ hx).2 rfl,fun d hx h1 h2=>(bc.gV hx).2 ⟨d,[],rfl,h1,h2,rfl⟩⟩
 |y::cs,ds,x,h=>by
  cases hy:(bw l y.2 t).2 with
  |true=>rw [bc.gV hy] at h;obtain ⟨e,Al,h1,h2,h3,h4⟩:=h;subst h1;have ih:=bc.snoc (x:=x) h4;refine ⟨fun hx=>(bc.gV hy).2 ⟨e,Al,rfl,h2,h3,ih.1 hx⟩,fun d hx k1 k2=>(bc.gV hy).2 ⟨e,Al++[d],rfl,h2,h3,ih.2 d hx k1 k2⟩⟩
  |false=>rw [bc.fQ hy] at h;have ih:=bc.snoc (x:=x) h;exact ⟨fun hx=>(bc.fQ hy).2 (ih.1 hx),fun d hx k1 k2=>(bc.fQ hy).2 (ih.2 d hx k1 k2)⟩
theorem bc.erase {H:List Ev}: ∀{cs ds:List pX} {i:Nat},bc l t H cs ds->i<aez cs->((bw l (cs[i]!).2 t).2=aeC->bc l t H (cs.eraseIdx i) ds)/\
 ((bw l (cs[i]!).2 t).2=aeB-> ∃k,k<aez ds/\(ds[k]!).1=(cs[i]!).1/\(((bw l (cs[i]!).2 t).1.1,(bw l (cs[i]!).2 t).1.2,(cs[i]!).1,(ds[k]!).2):Ev)∈H/\bc l t H (cs.eraseIdx i) (ds.eraseIdx k))
 | [],_,i,_,hi=>by cases hi
 |y::cs,ds,0,h,_=>by show ((bw l y.2 t).2=aeC->bc l t H cs ds)/\((bw l y.2 t).2=aeB-> ∃k,k<aez ds/\(ds[k]!).1=y.1/\(((bw l y.2 t).1.1,(bw l y.2 t).1.2,y.1,(ds[k]!).2):Ev)∈H/\bc l t H cs (ds.eraseIdx k));refine ⟨fun hy=>(bc.fQ hy).1 h,fun hy=>?_⟩;obtain ⟨e,Al,h1,h2,h3,h4⟩:=(bc.gV hy).1 h;subst h1;exact ⟨0,by simp,h2,h3,h4⟩
 |y::cs,ds,i+1,h,hi=>by
  have tY:i<(aez cs):=by simpa using hi
  show ((bw l (cs[i]!).2 t).2=aeC->bc l t H (y::cs.eraseIdx i) ds)/\((bw l (cs[i]!).2 t).2=aeB-> ∃k,k<aez ds/\(ds[k]!).1=(cs[i]!).1/\(((bw l (cs[i]!).2 t).1.1,(bw l (cs[i]!).2 t).1.2,(cs[i]!).1,(ds[k]!).2):Ev)∈H/\bc l t H (y::cs.eraseIdx i) (ds.eraseIdx k));cases hy:(bw l y.2 t).2 with
  |true=>obtain ⟨e,Al,h1,h2,h3,h4⟩:=(bc.gV hy).1 h;subst h1;have ih:=bc.erase (i:=i) h4 tY;refine ⟨fun hx=>(bc.gV hy).2 ⟨e,Al,rfl,h2,h3,ih.1 hx⟩,fun hx=>?_⟩;obtain ⟨k,k1,k2,k3,k4⟩:=ih.2 hx;exact ⟨k+1,by simp;omega,k2,k3,(bc.gV hy).2 ⟨e,Al.eraseIdx k,rfl,h2,h3,k4⟩⟩
  |false=>have h:=(bc.fQ hy).1 h;have ih:=bc.erase (i:=i) h tY;refine ⟨fun hx=>(bc.fQ hy).2 (ih.1 hx),fun hx=>?_⟩;obtain ⟨k,k1,k2,k3,k4⟩:=ih.2 hx;exact ⟨k,k1,k2,k3,(bc.fQ hy).2 k4⟩
end
theorem C0 {H:List Ev} {ns:List Int} (hd:ns.Nodup) (hl:(aez H)<=aez ns) (he: ∀n∈ns,∃e∈H,Ev.num e=n): ∀e∈H,Ev.num e∈ns:=by
 have pos: ∀n,n∈ns-> ∃w,w<aez H/\Ev.num H[w]! =n:=fun n hn=>by obtain ⟨e,he,h2⟩:=he n hn;obtain ⟨w,hw,rfl⟩:=aQ.1 he;exact ⟨w,hw,h2⟩
 let f:Int->Nat:=fun n=>if h: ∃w,w<aez H/\Ev.num H[w]! =n then h.choose else 0
 have hf: ∀n∈ns,f n<aez H/\Ev.num H[f n]! =n:=fun n hn=>by have h:=pos n hn;show (if h: ∃w,w<aez H/\Ev.num H[w]! =n then h.choose else 0)<_/\Ev.num H[(if h: ∃w,w<aez H/\Ev.num H[w]! =n then h.choose else 0)]! =n;rw [dif_pos h];exact h.choose_spec
 have full:=CW (n:=aez H) (l:=ns.map f) (yF hd fun x hx y hy h=>by
  have h1:=(hf x hx).2;have h2:=(hf y hy).2;rw [h] at h1;omega) (fun x hx=>by
  obtain ⟨n,hn,rfl⟩:=NE.1 hx;exact (hf n hn).1) (by rw [aep];exact hl)
 intro e hm;obtain ⟨w,hw,rfl⟩:=aQ.1 hm;obtain ⟨n,hn,h⟩:=NE.1 (full w hw);rw [<- h,(hf n hn).2];exact hn
theorem KX {cs:List pX} (h:Up cs):(cs.map fun x=>x.1).Nodup:=by
 refine yF ?_ ?_
 · unfold Up at h
   exact h.imp fun OX he=>by rw [he] at OX;omega
 intro x hx y hy he
 obtain ⟨i,hi,rfl⟩:=aQ.1 hx;obtain ⟨j,hj,rfl⟩:=aQ.1 hy;rcases aav i j with h1|h1|h1
 · have:=oZ.1 h i j h1 hj;omega
 · rw [h1]
 have:=oZ.1 h j i h1 hi;omega
theorem bg.pY {c:aI} (ok:bg c):Up c.af.ce:=oZ.2 ok.wM.up
theorem bg.z7 {c:aI} (ok:bg c):Up c.io:=ok.Df.up ok.pY
theorem bg.xK {c:aI} (ok:bg c): ∀e∈c.ae.bv,∃d∈c.io,d.1=Ev.num e:=by have:=C0 (H:=c.ae.bv) (KX ok.z7) (by rw [aep,ok.hd];exact Do _) (fun n hn=>by obtain ⟨d,hd,rfl⟩:=NE.1 hn;obtain ⟨x,hx,h1,h2,h3⟩:=ok.Df.io d hd;exact ⟨_,h3,h1.symm⟩);intro e he;obtain ⟨d,hd,h⟩:=NE.1 (this e he);exact ⟨d,hd,h⟩
end Go.Proofs.YtclphlgnjkajbaaGreat
