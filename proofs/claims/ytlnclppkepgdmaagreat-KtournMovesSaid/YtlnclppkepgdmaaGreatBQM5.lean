/- Plain laws (5). -/
import Derived.Test.YtlnclppkepgdmaaGreatBQM4
import Derived.Test.YtlnclppkepgdmaaGreatBQS2
import Derived.Test.YtlnclppkepgdmaaGreatBVm3
namespace Go.Proofs.YtlnclppkepgdmaaGreat
open Go.Vm Classical
structure YP (p w:List Int):Prop where
 one:1<=p.length
 most:p.length<=64
 len:w.length+1=p.length
 once:HO p
 rng: ∀x∈p,-1<=x/\x<=65535
 cho:C1 p w
 none_: ∀i,i<w.length->w[i]!<0->bR p w (2*i+1)<0/\bR p w (2*i+2)<0
def UY (p w:List Int) (i:Nat):Prop:=(w[i]! =bR p w (2*i+1)\/w[i]! =bR p w (2*i+2))/\ ¬(w[i]!<0/\(0<=bR p w (2*i+1)\/0<=bR p w (2*i+2)))
def aDh (p w:List Int) (i:Nat):Prop:=(w[i]! =bR p w (2*i+1)\/w[i]! =bR p w (2*i+2))/\ ¬(w[i]! = -1/\(bR p w (2*i+1)≠ -1\/bR p w (2*i+2)≠ -1))
def QW (p:List Int) (i:Nat):Prop:= -1<=p[i]!/\p[i]!<=65535
def P4 (p:List Int) (i:Nat):Prop:= ∀j,j<i->p[j]! =p[i]!->p[i]!<0
theorem JS {p:List Int}:(∀i,i<p.length->P4 p i)↔HO p:=
 ⟨fun h i j hij hj e=>by rw [e];exact h j hj i hij e,fun h i hi j hj e=>by have:=h j i hj hi e;rw [e] at this;exact this⟩
theorem UZ {p:List Int}:(∀i,i<p.length->QW p i)↔ ∀x∈p,-1<=x/\x<=65535:=(E1 (P:=fun x=> -1<=x/\x<=65535)).symm
theorem aFB {p w:List Int} (h1:1<=p.length) (h64:p.length<=64) (hl:w.length+1=p.length):
 YP p w↔(∀i,i<p.length->P4 p i)/\(∀i,i<p.length->QW p i)/\ ∀i,i<w.length->UY p w i:=by
 rw [JS,UZ];constructor
 · intro h
   refine ⟨h.once,h.rng,fun i hi=>⟨h.cho i hi,fun ⟨a,b⟩=>?_⟩⟩
   have:=h.none_ i hi a
   omega
 · rintro ⟨a,b,c⟩
   exact ⟨h1,h64,hl,a,b,fun i hi=>(c i hi).1,fun i hi h0=>by have:=(c i hi).2;omega⟩
theorem YQ {p w:List Int} (hl:w.length+1=p.length) (hr: ∀x∈p,-1<=x/\x<=65535):(∀i,i<w.length->UY p w i)↔ ∀i,i<w.length->aDh p w i:=by
 constructor<;>intro h i hi
 · have hc:C1 p w:=fun i hi=>(h i hi).1
   have a1:=hr _ (jT hl hc (i:=2*i+1) (by omega))
   have a2:=hr _ (jT hl hc (i:=2*i+2) (by omega))
   obtain ⟨b1,b2⟩:=h i hi;exact ⟨b1,by omega⟩
 · have hc:C1 p w:=fun i hi=>(h i hi).1
   have a1:=hr _ (jT hl hc (i:=2*i+1) (by omega))
   have a2:=hr _ (jT hl hc (i:=2*i+2) (by omega))
   obtain ⟨b1,b2⟩:=h i hi;exact ⟨b1,by omega⟩
theorem aTl {p q:Prop} [Decidable p] [Decidable q] [Decidable (p/\q)] {a b:Int}:(if p then (if q then a else b) else b)=if p/\q then a else b:=by
 by_cases hp:p
 · rw [if_pos hp];exact JQ ⟨fun h=>⟨hp,h⟩,fun h=>h.2⟩
 · rw [if_neg hp,if_neg (fun h=>hp h.1)]
theorem LC (p w:List Int) (hl:p.length<=1000) (wl:w.length<=1000):pE ⟨p,w⟩=some (if YP p w then 0 else 8):=by
 unfold pE;simp only [aF]
 by_cases h1:(p.length:Int)<1
 · rw [aJ h1,cond_true,if_neg (fun h=>by have:=h.one;omega)]
 rw [dec_f h1,cond_false]
 by_cases h2:(64:Int)<(p.length:Int)
 · rw [aJ h2,cond_true,if_neg (fun h=>by have:=h.most;omega)]
 rw [dec_f h2,cond_false,pQ (by omega) (by omega)]
 by_cases h3:w.length+1=p.length
 case neg=>rw [dH (by omega),cond_true,if_neg (fun h=>h3 h.len)]
 rw [bO (by omega),cond_false]
 have l1:=qA (body:=jE) (fun i=>(w,(w.length:Int),(i:Int),p,w)) w.length (UY p w) (r:= .done (.done 8)) (e:= .done (.done 0)) (fun i hi=>by
  unfold jE UY;have k1:=sH (i:=i) (by omega) 1 (by omega)
  have k2:=sH (i:=i) (by omega) 2 (by omega)
  simp only [aJ (show (i:Int)<(w.length:Int) by omega),cond_true,aE w i hi,aB,show aA .i64 (aA .i64 (2*(i:Int))+1)=((2*i+1:Nat):Int) from k1,show aA .i64 (aA .i64 (2*(i:Int))+2)=((2*i+2:Nat):Int) from k2,
   pS (p:=p) (w:=w) (i:=2*i+1) (by omega) (by omega),pS (p:=p) (w:=w) (i:=2*i+2) (by omega) (by omega),aU (show i<1000000000 by omega)]
  generalize bR p w (2*i+1)=x;generalize bR p w (2*i+2)=y;generalize w[i]! =v
  by_cases a1:v=x
  · rw [bO a1,cond_false]
    by_cases a3:v<0
    · rw [aJ a3,cond_true]
      by_cases a4:0<=(if y>x then y else x)
      · rw [aJ a4,cond_true]
        exact ⟨fun _=>rfl,fun h=>by split at a4<;>omega⟩
      · rw [dec_f a4,cond_false]
        exact ⟨fun h=>by split at a4<;>omega,fun _=>rfl⟩
    · rw [dec_f a3,cond_false]
      exact ⟨fun h=>by omega,fun _=>rfl⟩
  · rw [dH a1,cond_true]
    by_cases a2:v=y
    · rw [bO a2,cond_false]
      by_cases a3:v<0
      · rw [aJ a3,cond_true]
        by_cases a4:0<=(if y>x then y else x)
        · rw [aJ a4,cond_true]
          exact ⟨fun _=>rfl,fun h=>by split at a4<;>omega⟩
        · rw [dec_f a4,cond_false]
          exact ⟨fun h=>by split at a4<;>omega,fun _=>rfl⟩
      · rw [dec_f a3,cond_false]
        exact ⟨fun h=>by omega,fun _=>rfl⟩
    · rw [dH a2,cond_true]
      exact ⟨fun _=>rfl,fun h=>by omega⟩) (by
  unfold jE;simp only [dec_f (show¬(w.length:Int)<(w.length:Int) by omega),cond_false])
 have l1':aH jE (w,(w.length:Int),0,p,w)=some (.done (.done (if∀i,i<w.length->UY p w i then 0 else 8))):=by
  refine (show _=_ from l1).trans ?_
  by_cases h: ∀i,i<w.length->UY p w i
  · rw [if_pos h,if_pos h]
  · rw [if_neg h,if_neg h]
 have l2: ∀m,aH jF (p,(p.length:Int),0,p,w,m)=some (.done (if (∀i,i<p.length->QW p i)/\ ∀i,i<w.length->UY p w i then 0 else 8)):=fun m=>by
  have l2:=qA (body:=jF) (fun i=>(p,(p.length:Int),(i:Int),p,w,m)) p.length (QW p) (r:= .done 8) (e:= .done (if∀i,i<w.length->UY p w i then 0 else 8)) (fun i hi=>by
   unfold jF vX QW;simp only [aJ (show (i:Int)<(p.length:Int) by omega),cond_true,aE p i hi,aB,aU (show i<1000000000 by omega)]
   generalize p[i]! =v
   by_cases a1: -1<=v
   · rw [aJ a1,cond_true,aB]
     by_cases a2:v<=65535
     · rw [aJ a2];exact ⟨fun h=>absurd ⟨a1,a2⟩ h,fun _=>rfl⟩
     · rw [dec_f a2]
       refine ⟨fun _=>?_,fun h=>absurd h.2 a2⟩
       rw [aJ (show (0:Int)<=(i:Int) by omega)];rfl
   · rw [dec_f a1,cond_false,aB]
     refine ⟨fun _=>?_,fun h=>absurd h.1 a1⟩
     rw [aJ (show (0:Int)<=(i:Int) by omega)];rfl) (by
   unfold jF;simp only [dec_f (show¬(p.length:Int)<(p.length:Int) by omega),cond_false,aF,l1'])
  refine (show _=_ from l2).trans ?_
  by_cases h: ∀i,i<p.length->QW p i
  · rw [if_pos h];congr 2;exact JQ ⟨fun k=>⟨h,k⟩,fun k=>k.2⟩
  · rw [if_neg h,if_neg (fun k=>h k.1)]
 have l3:=qA (body:=oK) (fun i=>(p,(p.length:Int),(i:Int),p,w,P2 p i)) p.length (P4 p) (r:=8) (e:=if (∀i,i<p.length->QW p i)/\ ∀i,i<w.length->UY p w i then 0 else 8) (fun i hi=>by
  unfold oK;simp only [aJ (show (i:Int)<(p.length:Int) by omega),cond_true,aE p i hi,aB,P3,aU (show i<1000000000 by omega)]
  by_cases a:P4 p i
  · rw [dec_f (show¬(0<=p[i]!/\ ∃j,j<i/\p[j]! =p[i]!) from fun ⟨h0,j,hj,e⟩=>by have:=a j hj e;omega)]
    exact ⟨fun h=>absurd a h,fun _=>rfl⟩
  · rw [aJ (show 0<=p[i]!/\ ∃j,j<i/\p[j]! =p[i]! from by
     unfold P4 at a;obtain ⟨j,hj⟩:=Classical.not_forall.1 a;obtain ⟨hj,h⟩:=Classical.not_imp.1 hj;obtain ⟨h,h0⟩:=Classical.not_imp.1 h;exact ⟨by omega,j,hj,h⟩)]
    refine ⟨fun _=>?_,fun h=>absurd h a⟩
    rw [aJ (show (0:Int)<=(i:Int) by omega)];rfl) (by
  unfold oK;simp only [dec_f (show¬(p.length:Int)<(p.length:Int) by omega),cond_false,aF,l2])
 refine (show _=_ from l3).trans ?_;rw [JQ (aFB (by omega) (by omega) h3)]
 congr 1
 exact aTl
theorem P5 (p:List Int) (hl:p.length<=1000):EP p=some (!decide (HO p)):=by
 have l2:=qA (body:=rW) (fun i=>(p,(i:Int))) p.length (P4 p) (r:=true) (e:=false) (fun i hi=>by
  have l1:=qA (body:=rV) (fun j=>(p,(i:Int),(j:Int))) i (fun j=>p[j]! =p[i]!->p[i]!<0) (r:= .done true) (e:= .next (p,((i+1:Nat):Int))) (fun j hj=>by
   unfold rV;simp only [aJ (show (j:Int)<(i:Int) by omega),cond_true,aE p i hi,aE p j (by omega),aB,aU (show j<1000000000 by omega)]
   by_cases a:0<=p[i]!
   · rw [aJ a,cond_true]
     by_cases b:p[j]! =p[i]!
     · rw [dY b];exact ⟨fun _=>rfl,fun h=>by have:=h b;omega⟩
     · rw [eD b];exact ⟨fun h=>absurd (fun k=>absurd k b) h,fun _=>rfl⟩
   · rw [dec_f a,cond_false]
     exact ⟨fun h=>absurd (fun _=>by omega) h,fun _=>rfl⟩) (by
   unfold rV;simp only [dec_f (show¬(i:Int)<(i:Int) by omega),cond_false,aU (show i<1000000000 by omega)])
  have l1:=(show _=_ from l1);unfold rW;simp only [aF,aJ (show (i:Int)<(p.length:Int) by omega),cond_true]
  by_cases a:P4 p i
  · rw [if_pos (show∀j,j<i->p[j]! =p[i]!->p[i]!<0 from a)] at l1
    exact ⟨fun h=>absurd a h,fun _=>l1⟩
  · rw [if_neg (show¬ ∀j,j<i->p[j]! =p[i]!->p[i]!<0 from a)] at l1
    exact ⟨fun _=>l1,fun h=>absurd h a⟩) (by
  unfold rW;simp only [aF,dec_f (show¬(p.length:Int)<(p.length:Int) by omega),cond_false])
 refine (show _=_ from l2).trans ?_
 by_cases h:HO p
 · rw [if_pos (JS.2 h),aJ h];rfl
 · rw [if_neg (fun k=>h (JS.1 k)),dec_f h];rfl
theorem P6 (p w:List Int) (hl:p.length<=1000) (wl:w.length<=1000):vL ⟨p,w⟩=some (if YP p w then 0 else 8):=by
 unfold vL;simp only [aF]
 by_cases h1:(p.length:Int)<1
 · rw [aJ h1,cond_true,if_neg (fun h=>by have:=h.one;omega)]
 rw [dec_f h1,cond_false]
 by_cases h2:(64:Int)<(p.length:Int)
 · rw [aJ h2,cond_true,if_neg (fun h=>by have:=h.most;omega)]
 rw [dec_f h2,cond_false,pQ (by omega) (by omega)]
 by_cases h3:w.length+1=p.length
 case neg=>rw [dH (by omega),cond_true,if_neg (fun h=>h3 h.len)]
 rw [bO (by omega),cond_false,P5 p hl,aB]
 by_cases ho:HO p
 case neg=>rw [dec_f ho,if_neg (fun h=>ho h.once)];rfl
 rw [aJ ho,Bool.not_true,cond_false];have l1:=qA (body:=nY) (fun i=>((i:Int),p,w)) w.length (aDh p w) (r:= .done 8) (e:= .done 0) (fun i hi=>by
  unfold nY aDh;have k1:=sH (i:=i) (by omega) 1 (by omega)
  have k2:=sH (i:=i) (by omega) 2 (by omega)
  simp only [aF,aJ (show (i:Int)<(w.length:Int) by omega),cond_true,aE w i hi,aB,show aA .i64 (aA .i64 (2*(i:Int))+1)=((2*i+1:Nat):Int) from k1,show aA .i64 (aA .i64 (2*(i:Int))+2)=((2*i+2:Nat):Int) from k2,
   qX (p:=p) (w:=w) (i:=2*i+1) (by omega) (by omega),qX (p:=p) (w:=w) (i:=2*i+2) (by omega) (by omega),aU (show i<1000000000 by omega)]
  generalize bR p w (2*i+1)=x;generalize bR p w (2*i+2)=y;generalize w[i]! =v
  by_cases a1:v=x
  · rw [bO a1,cond_false]
    by_cases a3:v= -1
    · rw [dY a3,cond_true]
      by_cases a4:x= -1
      · rw [bO a4,cond_false]
        by_cases a5:y= -1
        · rw [bO a5,cond_false];exact ⟨fun h=>by omega,fun _=>rfl⟩
        · rw [dH a5,cond_true];exact ⟨fun _=>rfl,fun h=>by omega⟩
      · rw [dH a4,cond_true];exact ⟨fun _=>rfl,fun h=>by omega⟩
    · rw [eD a3,cond_false];exact ⟨fun h=>by omega,fun _=>rfl⟩
  · rw [dH a1,cond_true]
    by_cases a2:v=y
    · rw [bO a2,cond_false]
      by_cases a3:v= -1
      · rw [dY a3,cond_true]
        by_cases a4:x= -1
        · rw [bO a4,cond_false]
          by_cases a5:y= -1
          · rw [bO a5,cond_false];exact ⟨fun h=>by omega,fun _=>rfl⟩
          · rw [dH a5,cond_true];exact ⟨fun _=>rfl,fun h=>by omega⟩
        · rw [dH a4,cond_true];exact ⟨fun _=>rfl,fun h=>by omega⟩
      · rw [eD a3,cond_false];exact ⟨fun h=>by omega,fun _=>rfl⟩
    · rw [dH a2,cond_true]
      exact ⟨fun _=>rfl,fun h=>by omega⟩) (by
  unfold nY;simp only [aF,dec_f (show¬(w.length:Int)<(w.length:Int) by omega),cond_false])
 have l1':aH nY (0,p,w)=some (.done (if∀i,i<w.length->aDh p w i then 0 else 8)):=by
  refine (show _=_ from l1).trans ?_
  by_cases h: ∀i,i<w.length->aDh p w i
  · rw [if_pos h,if_pos h]
  · rw [if_neg h,if_neg h]
 have l2:=qA (body:=rX) (fun i=>((p.length:Int),(i:Int),p,w)) p.length (QW p) (r:=8) (e:=if∀i,i<w.length->aDh p w i then 0 else 8) (fun i hi=>by
  unfold rX QW;simp only [aJ (show (i:Int)<(p.length:Int) by omega),cond_true,aE p i hi,aB,aU (show i<1000000000 by omega)]
  generalize p[i]! =v
  by_cases a1:v< -1
  · rw [aJ a1];exact ⟨fun _=>rfl,fun h=>by omega⟩
  · rw [dec_f a1,cond_false]
    by_cases a2:65535<v
    · rw [aJ a2];exact ⟨fun _=>rfl,fun h=>by omega⟩
    · rw [dec_f a2];exact ⟨fun h=>by omega,fun _=>rfl⟩) (by
  unfold rX;simp only [dec_f (show¬(p.length:Int)<(p.length:Int) by omega),cond_false,l1'])
 refine (show _=_ from l2).trans ?_;rw [JQ (aFB (by omega) (by omega) h3)]
 congr 1
 by_cases hr: ∀i,i<p.length->QW p i
 · rw [if_pos hr]
   exact JQ ⟨fun h=>⟨JS.2 ho,hr,(YQ h3 (UZ.1 hr)).2 h⟩,fun h=>(YQ h3 (UZ.1 hr)).1 h.2.2⟩
 · rw [if_neg hr,if_neg (fun h=>hr h.2.1)]
def YR (c:aO) (to:Int×Int):Prop:=0<c.agenda.heap.length/\mW (Ev.at c.agenda.heap[0]!) to<=0
theorem P7 {c:aO} (ok:aV c) {to:Int×Int} (rt:bQ to) (r64:oY to) (le: ¬mW to c.now<0):vE c to=some (decide (YR c to),0):=by
 unfold vE;rw [lT ok.fit,if_pos ok,aB,dT r64,if_pos rt,aB,bO (by decide),cond_false,KW r64 ok.now64,if_pos ⟨rt,ok.nowv⟩,aB,dec_f le,cond_false]
 unfold HB;rw [kC _ ok.fit.ag,if_pos ok.agd,aB,bO rfl,cond_false]
 by_cases h:0<c.agenda.heap.length
 · have ev:=ok.agd.ev 0 h
   have g:=aE c.agenda.heap 0 h;rw [show ((0:Nat):Int)=0 from rfl] at g;rw [eD (by rw [aF];omega),cond_false,g,aB,aB,bO rfl,cond_false,KW ev.2.1 r64,if_pos ⟨ev.1,rt⟩,aB]
   congr 2
   by_cases h2:mW (Ev.at c.agenda.heap[0]!) to<=0
   · rw [aJ (show YR c to from ⟨h,h2⟩),aJ h2]
   · rw [dec_f (fun k:YR c to=>h2 k.2),dec_f h2]
 · rw [dY (by rw [aF];omega),cond_true,aB,dec_f (fun k:YR c to=>h k.1)]
   rfl
theorem P8 {c:aO} (ok:aV c) {to:Int×Int} (r64:oY to):zJ c to=some (decide (YR c to)):=by
 unfold zJ;simp only [aF]
 by_cases h:0<c.agenda.heap.length
 · have ev:=ok.agd.ev 0 h
   have g:=aE c.agenda.heap 0 h;rw [show ((0:Nat):Int)=0 from rfl] at g;rw [aJ (by omega),cond_true,g,aB,yB ev.2.1 r64,aB]
   congr 1
   by_cases h2:mW (Ev.at c.agenda.heap[0]!) to<=0
   · rw [aJ (show YR c to from ⟨h,h2⟩),aJ h2]
   · rw [dec_f (fun k:YR c to=>h2 k.2),dec_f h2]
 · rw [dec_f (by omega),cond_false,dec_f (fun k:YR c to=>h k.1)]
theorem YS {c:bI} (ok:fC c) {i:Nat} (hi:i<c.list.length):OS c (c.list[i]!).1=some (i:Int):=by
 have hl:=ok.len;have k:=mE (body:=zK) (fun j=>((c.list[i]!).1,(j:Int),c.next_,c.list)) c.list.length (fun j=>(c.list[j]!).1=(c.list[i]!).1) (fun j=>(j:Int)) (e:= -1) (fun j hj=>by
  unfold zK;simp only [aF,aJ (show (j:Int)<(c.list.length:Int) by omega),cond_true,aE c.list j hj,aB,aU (show j<1000000000 by omega)]
  refine ⟨fun h=>?_,fun h=>?_⟩
  · rw [dY h];rfl
  · rw [eD h];rfl) (by
  unfold zK;simp only [aF,dec_f (show¬(c.list.length:Int)<(c.list.length:Int) by omega),cond_false])
 exact k.1 i hi rfl fun j hj e=>by have:=ok.up j i hj hi;omega
abbrev atT (c:aO) (t:Int×Int):aO:=⟨t,c.field,c.certs,c.agenda,c.due⟩
theorem aFC {c:aO} (ok:aV c) {to:Int×Int} (rt:bQ to) (r64:oY to) (le: ¬mW to c.now<0) (due:YR c to):
 ∃(x:Int×Int) (c1:aO),tC c to=some (c1,c.agenda.heap[0]!,x,0)/\wT c=some (c1,c.agenda.heap[0]!,x)/\aV c1/\c1.field=c.field/\jS c.field.points x/\oW c1=oW c+1/\c1.now=Ev.at c.agenda.heap[0]!:=by
 obtain ⟨i,c',hi,num,r1,r2,ok1,hf,hc,_⟩:=aAI ok due.1;have g:=aE c.agenda.heap 0 due.1;rw [show ((0:Nat):Int)=0 from rfl] at g;have hcl:c'.certs.list.length=c.certs.list.length-1:=by
  rw [hc];exact List.length_eraseIdx_of_lt hi
 have hcn:c'.certs.next_=c.certs.next_:=by rw [hc];rfl
 refine ⟨(c.certs.list[i]!).2,atT c' (Ev.at c.agenda.heap[0]!),?_,?_,ok1,hf,ok.known i hi,?_,rfl⟩
 · unfold tC
   rw [P7 ok rt r64 le,aB,dY rfl,cond_true,aJ due,Bool.not_true,cond_false,bO rfl,cond_false,g,aB,r1,aB,bO rfl,cond_false]
 · unfold wT
   rw [g,aB,show (c.agenda.heap[0]!).2.2.1=(c.certs.list[i]!).1 from num.symm,YS ok.crt hi,aB,aE c.certs.list i hi,aB,num,r2,aB]
 · unfold oW
   show c'.certs.next_- (c'.certs.list.length:Int)=_;rw [hcl,hcn];omega
theorem aFD {c:aO} (ok:aV c) {to:Int×Int} (rt:bQ to) (r64:oY to) (le: ¬mW to c.now<0) (due: ¬YR c to):tC c to=some (eK,(0,0,0,0,0),(0,0),6):=by
 unfold tC;rw [P7 ok rt r64 le,aB,dY rfl,cond_true,dec_f due];rfl
theorem aMT {c:aO} (ok:aV c) {to:Int×Int} (rt:bQ to) (r64:oY to) (le: ¬mW to c.now<0) (due: ¬YR c to):CJ c to=some (atT c to,0):=by
 unfold CJ;rw [P7 ok rt r64 le,aB,dY rfl,cond_true,dec_f due,cond_false,bO rfl,cond_false,kV ok,aB]
theorem aFE {c:aO} (ok:aV c) (to:Int×Int):zO c to=some (atT c to):=by
 unfold zO;rw [jB ok,aB]
theorem U0 {c:aO} (ok:aV c): -200<=oW c/\oW c<=1000000:=by
 have h1:=ok.crt.len;have h2:=ok.crt.n0;have h3:=ok.crt.n1;unfold oW;omega
theorem aMU {h l:Pt} {t t':Int×Int} (hh:gP h) (hl:gP l) (r:bQ t) (r':bQ t') (le:t.1*t'.2<=t'.1*t.2) (nf:(mX h l t).2=true->t'.1*(mX h l t).1.2<(mX h l t).1.1*t'.2): ¬eX l h t':=by
 unfold mX at nf
 by_cases h1:eX l h t
 · rw [if_pos h1] at nf
   have:=nf rfl
   dsimp only at this;omega
 · rw [if_neg h1] at nf
   by_cases h2:h.2.2<l.2.2
   · rw [if_pos h2] at nf
     obtain ⟨_,m1,m2,m3⟩:=KX hh hl (show h.2.2≠l.2.2 by omega)
     have up:=nf rfl;dsimp only at up;intro h3;have g:0<=OV l h t':=by rcases h3 with k|k<;>omega
     rw [JP] at g;generalize met h l=m at*;have d:=m1.1;have hB:0<l.2.2-h.2.2:=by omega
     generalize l.2.2-h.2.2=B at*;generalize hA:h.2.1-l.2.1=A at*;have g2:A*t'.2<=B*t'.1:=by
      have:(l.2.1-h.2.1)*t'.2= -(A*t'.2):=by rw [<- Int.neg_mul];congr 1;omega
      omega
     have g3:m.1*t'.2*B<=t'.1*m.2*B:=by
      have e1:m.1*t'.2*B=A*t'.2*m.2:=by rw [Int.mul_right_comm,m3,Int.mul_right_comm]
      have e2:t'.1*m.2*B=B*t'.1*m.2:=by rw [Int.mul_right_comm,Int.mul_comm t'.1 B]
      rw [e1,e2];exact Int.mul_le_mul_of_nonneg_right g2 (by omega)
     have g4:m.1*t'.2<=t'.1*m.2:=Int.le_of_mul_le_mul_right g3 hB;omega
   · exact L4 r.1 r'.1 le h2 h1
def hP (c:aO) (r:Int) (N:List Nd) (to:Int×Int) (out:List (Int×Int)):=
 (c.now.1,c.now.2,c.field.points,c.certs.next_,c.certs.list,c.agenda.slots.uses,c.agenda.slots.used,c.agenda.slots.free,c.agenda.heap,c.agenda.where_,c.due,r,N,to.1,to.2,(0:Int),(0:Int),(0:Int),(0:Int),out)
noncomputable def AS (p w:List Int) (k:Nat):List (Int×Int):=(List.range k).filterMap (DN p w)
theorem L7 (p w:List Int) (k:Nat):AS p w (k+1)=AS p w k++(match DN p w k with|some e=>[e]|none=>[]):=by
 unfold AS;rw [List.range_succ,List.filterMap_append];cases h:DN p w k<;>simp [h]
theorem P9 (p w:List Int) (k:Nat):(AS p w k).length<=k:=by
 have:=List.length_filterMap_le (DN p w) (List.range k)
 rwa [List.length_range] at this
section
variable {p w : List Int} (hl : w.length + 1 = p.length) (h64 : p.length <= 64) (hc : C1 p w)
include hl h64
theorem L8:BC ⟨p,w⟩=some (gI p w):=by
 have st:=cP (body:=zI) (fun i=>((i:Int),p,w,AS p w i)) w.length (fun i hi=>by
  have k1:=sH (i:=i) (by omega) 1 (by omega)
  have k2:=sH (i:=i) (by omega) 2 (by omega)
  have el:=P9 p w i;rw [L7];unfold zI;simp only [aF,aJ (show (i:Int)<(w.length:Int) by omega),cond_true,show aA .i64 (aA .i64 (2*(i:Int))+1)=((2*i+1:Nat):Int) from k1,show aA .i64 (aA .i64 (2*(i:Int))+2)=((2*i+2:Nat):Int) from k2,
   qX (p:=p) (w:=w) (i:=2*i+1) (by omega) (by omega),qX (p:=p) (w:=w) (i:=2*i+2) (by omega) (by omega),aB,aE w i hi,aU (show i<1000000000 by omega)]
  unfold DN;generalize bR p w (2*i+1)=x;generalize bR p w (2*i+2)=y;generalize w[i]! =v
  by_cases a1:x<0
  · rw [aJ a1,cond_true,if_pos (.inl a1)];simp
  rw [dec_f a1,cond_false]
  by_cases a2:y<0
  · rw [aJ a2,cond_true,if_pos (.inr a2)];simp
  rw [dec_f a2,cond_false,if_neg (by omega)]
  by_cases a3:v=x
  · rw [dY a3,cond_true,if_pos a3,eT (by rw [List.length_singleton];omega),aB]
  · rw [eD a3,cond_false,if_neg a3,eT (by rw [List.length_singleton];omega),aB])
 unfold BC;refine (show _=_ from st).trans (aL ?_);unfold zI;simp only [aF,dec_f (show¬(w.length:Int)<(w.length:Int) by omega),cond_false]
 rfl
include hc
theorem YT (hr: ∀x∈p,-1<=x/\x<=65535):aH nV (w,(w.length:Int),0,p,w,[])=some (⟨p,w⟩,gI p w):=by
 have st:=cP (body:=nV) (fun i=>(w,(w.length:Int),(i:Int),p,w,AS p w i)) w.length (fun i hi=>by
  have k1:=sH (i:=i) (by omega) 1 (by omega)
  have k2:=sH (i:=i) (by omega) 2 (by omega)
  have el:=P9 p w i;have m1:=hr _ (jT hl hc (i:=2*i+1) (by omega))
  have m2:=hr _ (jT hl hc (i:=2*i+2) (by omega))
  have cv:=hc i hi;have fin: ∀(x y v:Int),(-1<=x/\x<=65535)->(-1<=y/\y<=65535)->(v=x\/v=y)->
   (bif decide (0<=x) then
    bif decide (0<=y) then (bV (AS p w i) [(aA .i64 (aA .i64 (x+y) -v),v)]).bind fun l3=>some (bT.next (ρ:=bF×List (Int×Int)) (w,(w.length:Int),aA .i64 ((i:Int)+1),p,w,l3))
    else some (bT.next (w,(w.length:Int),aA .i64 ((i:Int)+1),p,w,AS p w i))
   else some (bT.next (w,(w.length:Int),aA .i64 ((i:Int)+1),p,w,AS p w i)))=
   some (bT.next (w,(w.length:Int),((i+1:Nat):Int),p,w,AS p w i++(match (if x<0\/y<0 then none else if v=x then some (y,x) else some (x,y)) with|some e=>[e]|none=>[]))):=by
   intro x y v hx hy hv;rw [aU (show i<1000000000 by omega)]
   by_cases a1:x<0
   · rw [dec_f (by omega),cond_false,if_pos (.inl a1)];simp
   rw [aJ (by omega),cond_true]
   by_cases a2:y<0
   · rw [dec_f (by omega),cond_false,if_pos (.inr a2)];simp
   rw [aJ (by omega),cond_true,if_neg (by omega),eT (by rw [List.length_singleton];omega),aB,qS (n:=x+y) ⟨by omega,by omega⟩,qS ⟨by omega,by omega⟩]
   by_cases a3:v=x
   · rw [if_pos a3,a3,show x+y-x=y by omega]
   · rw [if_neg a3,show x+y-v=x by omega,show v=y by omega]
  rw [L7];unfold nV;have e1:bR p w (2*i+1)=if 2*i+1<w.length then w[2*i+1]! else p[2*i+1-w.length]!:=rfl
  have e2:bR p w (2*i+2)=if 2*i+2<w.length then w[2*i+2]! else p[2*i+2-w.length]!:=rfl
  have f1:=fin _ _ _ m1 m2 cv;simp only [aF,aJ (show (i:Int)<(w.length:Int) by omega),cond_true,show aA .i64 (aA .i64 (2*(i:Int))+1)=((2*i+1:Nat):Int) from k1,show aA .i64 (aA .i64 (2*(i:Int))+2)=((2*i+2:Nat):Int) from k2,aE w i hi,aB,beq_self_eq_true]
  by_cases b1:2*i+1<w.length
  · rw [if_pos b1] at e1
    rw [aJ (show ((2*i+1:Nat):Int)<(w.length:Int) by omega),cond_true,aE w _ b1,aB,<- e1]
    by_cases b2:2*i+2<w.length
    · rw [if_pos b2] at e2
      rw [aJ (show ((2*i+2:Nat):Int)<(w.length:Int) by omega),cond_true,aE w _ b2,aB,<- e2]
      exact f1
    · rw [if_neg b2] at e2
      rw [dec_f (show¬((2*i+2:Nat):Int)<(w.length:Int) by omega),cond_false,qS ⟨by omega,by omega⟩,show ((2*i+2:Nat):Int) - (w.length:Int)=((2*i+2-w.length:Nat):Int) by omega,aE p _ (by omega),aB,<- e2]
      exact f1
  · rw [if_neg b1] at e1
    rw [if_neg (show¬2*i+2<w.length by omega)] at e2
    rw [dec_f (show¬((2*i+1:Nat):Int)<(w.length:Int) by omega),cond_false,qS (n:=((2*i+1:Nat):Int) - (w.length:Int)) ⟨by omega,by omega⟩,show ((2*i+1:Nat):Int) - (w.length:Int)=((2*i+1-w.length:Nat):Int) by omega,aE p _ (by omega),aB,<- e1,
     dec_f (show¬((2*i+2:Nat):Int)<(w.length:Int) by omega),cond_false,qS (n:=((2*i+2:Nat):Int) - (w.length:Int)) ⟨by omega,by omega⟩,show ((2*i+2:Nat):Int) - (w.length:Int)=((2*i+2-w.length:Nat):Int) by omega,aE p _ (by omega),aB,<- e2]
    exact f1)
 refine (show _=_ from st).trans (aL ?_);unfold nV;simp only [dec_f (show¬(w.length:Int)<(w.length:Int) by omega),cond_false]
 rfl
end
structure JT (f:List Pt) (p:List Int):Prop where
 one:1<=p.length
 most:p.length<=64
 once:HO p
 ids: ∀x∈p,UW f x
theorem JT.rng {f:List Pt} (fok:cZ f) {p:List Int} (h:JT f p): ∀x∈p,-1<=x/\x<=65535:=fun x hx=>by
 rcases h.ids x hx with e|⟨e,hp⟩
 · omega
 · have:=(dN fok hp).1
   have e2:=(dN fok hp).2;unfold gP at this;omega
section
variable {f : List Pt} (fok : cZ f) {t : Int × Int} (r : bQ t) (r64 : oY t) {p : List Int} (pl : JT f p)
include fok r64 pl
theorem QX:CO ⟨f⟩ t p=some ⟨p,bG f t p⟩:=by
 unfold CO;rw [P1 fok r64 pl.one pl.most pl.ids];rfl
theorem sI:JO f (gI p (bG f t p))/\(gI p (bG f t p)).Nodup/\(gI p (bG f t p)).length<=63:=by
 have _:=r64;have R:=eC (f:=f) (t:=t) pl.one;have m:=pl.most
 have:=R.1
 have el:=PS p (bG f t p);exact ⟨aDf fok R.1 pl.most R.chosen pl.once fun x hx h0=>(pl.ids x hx).has h0,UU R.1 R.chosen pl.once,by omega⟩
include r
theorem yI:mB ⟨f⟩ t p=some (⟨p,bG f t p⟩,gI p (bG f t p)):=by
 have R:=eC (f:=f) (t:=t) pl.one;unfold mB;rw [LB fok r r64 pl.one pl.most pl.ids pl.once,aB];exact YT R.1 pl.most R.chosen (pl.rng fok)
end
def zV:cC:=⟨eK,⟨[],[]⟩⟩
structure aTm (c:aO) (f:List Pt) (p:List Int) (k:cC):Prop where
 ren:PO c f (gI p (bG f c.now p)) k.clock
 places:k.bracket=⟨p,bG f c.now p⟩
theorem U1 {c:aO} (ok:aV c) {f:List Pt} (fok:cZ f) {p:List Int} (pl:JT f p):
 ∃R:aO×Int,qN c ⟨f⟩ (gI p (bG f c.now p))=some R/\nD c ⟨f⟩ (gI p (bG f c.now p))=some R/\(R.2=0/\PO c f (gI p (bG f c.now p)) R.1\/R=(eK,18)):=by
 obtain ⟨eok,nd,el⟩:=sI fok ok.now64 (t:=c.now) pl;obtain ⟨R,r1,r2,r3⟩:=aMM ok fok eok;have ee:oU f (gI p (bG f c.now p))=0:=by
  unfold oU;rw [if_neg (Classical.not_not.2 eok.cv),if_neg (Classical.not_not.2 nd),if_neg (fun h=>h eok.kn)]
 have rn:=PU ok fok (es:=gI p (bG f c.now p)) (by omega) (fun _=>r1)
 rw [if_pos ee] at rn;exact ⟨R,rn,r2,r3⟩
theorem HQ {c:aO} (ok:aV c) {f:List Pt} (fok:cZ f) {p:List Int} (pl:JT f p):
 ∃R:cC×Int,lK c ⟨f⟩ p=some R/\nE c ⟨f⟩ p=some R/\(R.2=0/\aTm c f p R.1\/R=(zV,18)):=by
 have h1:=yI fok ok.nowv ok.now64 pl;have g1:=QX fok (t:=c.now) ok.now64 pl;have B:=eC (f:=f) (t:=c.now) pl.one;have eo:=L8 B.1 pl.most;obtain ⟨R,r1,r2,r3⟩:=U1 ok fok pl;rcases r3 with ⟨q0,qq⟩|he
 · refine ⟨(⟨R.1,⟨p,bG f c.now p⟩⟩,0),?_,?_,.inl ⟨rfl,qq,rfl⟩⟩
   · unfold lK
     simp only [h1,aB,r1,q0,show ((0:Int) !=0)=false from rfl,cond_false]
   · unfold nE
     simp only [g1,aB,eo,r2,q0,show ((0:Int) !=0)=false from rfl,cond_false]
 · refine ⟨(zV,18),?_,?_,.inr rfl⟩
   · unfold lK
     simp only [h1,aB,r1,he,show ((18:Int) !=0)=true from rfl,cond_true];rfl
   · unfold nE
     simp only [g1,aB,eo,r2,he,show ((18:Int) !=0)=true from rfl,cond_true];rfl
def iV (p:List Int):List Int:=p.filter fun x=>decide (0<=x)
theorem pI {p:List Int} {j:Nat} (hj:j<p.length):iV (p.take (j+1))=iV (p.take j)++if 0<=p[j]! then [p[j]!] else []:=by
 unfold iV;rw [hY hj,List.filter_append]
 by_cases h:0<=p[j]!
 · rw [if_pos h,List.filter_cons_of_pos (by simpa using h),List.filter_nil]
 · rw [if_neg h,List.filter_cons_of_neg (by simpa using h),List.filter_nil]
theorem aFF (p:List Int) (j:Nat):(iV (p.take j)).length<=j:=by
 have:=List.length_filter_le (fun x:Int=>decide (0<=x)) (p.take j)
 rw [List.length_take] at this;unfold iV;omega
theorem JU (p:List Int) (hl:p.length<=1000):FM p=some (iV p):=by
 have st:=cP (body:=wR) (fun i=>(p,(i:Int),iV (p.take i))) p.length (fun i hi=>by
  have el:=aFF p i;rw [pI hi];unfold wR;simp only [aF,aJ (show (i:Int)<(p.length:Int) by omega),cond_true,aE p i hi,aB,aU (show i<1000000000 by omega)]
  by_cases h:0<=p[i]!
  · rw [aJ h,cond_true,if_pos h,eT (by rw [List.length_singleton];omega),aB]
  · rw [dec_f h,cond_false,if_neg h,List.append_nil])
 unfold FM;refine (show _=_ from st).trans (aL ?_);unfold wR;simp only [aF,dec_f (show¬(p.length:Int)<(p.length:Int) by omega),cond_false,List.take_length]
structure ST (p:List Int) (i j:Nat) (L:List Int):Prop where
 len:L.length=p.length
 le:i<=j
 lt:j<=p.length
 got:L.take i=iV (p.take j)
 rest: ∀k,j<=k->k<p.length->L[k]! =p[k]!
theorem ST.cnt {p:List Int} {i j:Nat} {L:List Int} (h:ST p i j L):i=(iV (p.take j)).length:=by
 have:=congrArg List.length h.got
 rw [List.length_take,h.len] at this
 have:=h.le;have:=h.lt
 omega
theorem aMV {p:List Int} {i:Nat} {L:List Int} (h:ST p i p.length L): ∃M:List Int,bB p ((i:Int),(p.length:Int),L)=some (.done (.done (i,p.length,M)))/\M.length=p.length/\M.take i=iV p:=by
 have hl:=h.len;have hi:=h.le;have got:=h.got;rw [List.take_length] at got;unfold bB
 simp only [aF,hl,dec_f (show¬(p.length:Int)<(p.length:Int) by omega),cond_false,aJ (show (0:Int)<=(i:Int) by omega),aJ (show (i:Int)<=(p.length:Int) by omega),aJ (show (p.length:Int)<=(p.length:Int) by omega),Bool.and_self,cond_true,Int.toNat_natCast,Nat.zero_add,Bool.not_false,Bool.and_true]
 by_cases h0:p.length-i=0
 · have n1:Nat.beq (p.length-i) 0=true:=by rw [h0];rfl
   rw [n1,cond_true,lS L i (by omega),aB,beq_self_eq_true,cond_true]
   exact ⟨L,rfl,hl,got⟩
 · have n1:Nat.beq (p.length-i) 0=false:=by
    cases hb:Nat.beq (p.length-i) 0 with
    |false=>rfl
    |true=>have:=Nat.eq_of_beq_eq_true hb;omega
   have n2:Nat.ble (i+(p.length-i)) p.length=true:=Nat.ble_eq_true_of_le (by omega)
   have ll:(jV L i (List.replicate (p.length-i) (0:Int))).length=p.length:=by
    unfold jV;simp;omega
   rw [n1,cond_false,n2,cond_true,lS _ i (by rw [ll];omega),aB,ll,beq_self_eq_true,cond_true]
   refine ⟨_,rfl,ll,?_⟩;rw [<- got];unfold jV;rw [List.append_assoc,List.take_append_of_le_length (by rw [List.length_take];omega),List.take_take,Nat.min_self]
theorem aTn {p:List Int} (hp:p.length<=1000): ∀(d i j:Nat) (L:List Int),p.length-j<=d->ST p i j L->
 ∃(n:Nat) (M:List Int),aH (bB p) ((i:Int),(j:Int),L)=some (.done (n,p.length,M))/\n=(iV p).length/\M.length=p.length/\M.take n=iV p:=by
 have fin: ∀(i j:Nat) (L:List Int),p.length<=j->ST p i j L-> ∃(n:Nat) (M:List Int),aH (bB p) ((i:Int),(j:Int),L)=some (.done (n,p.length,M))/\n=(iV p).length/\M.length=p.length/\M.take n=iV p:=by
  intro i j L hj h;obtain rfl:j=p.length:=by have:=h.lt;omega
  obtain ⟨M,m1,m2,m3⟩:=aMV h;exact ⟨i,M,aL m1,by rw [h.cnt,List.take_length],m2,m3⟩
 intro d
 induction d with
 |zero=>exact fun i j L hd h=>fin i j L (by omega) h
 |succ d ih=>
  intro i j L hd h
  by_cases hj:p.length<=j
  · exact fin i j L hj h
  have hl:=h.len;have hle:=h.le;have e:L[j]! =p[j]!:=h.rest j (Nat.le_refl _) (by omega)
  have st:bB p ((i:Int),(j:Int),L)=some (.next (((if 0<=p[j]! then i+1 else i:Nat):Int),((j+1:Nat):Int),if 0<=p[j]! then L.set i p[j]! else L)):=by
   unfold bB lI;simp only [aF,hl,aJ (show (j:Int)<(p.length:Int) by omega),cond_true,aE L j (by omega),aB,e,aU (show i<1000000000 by omega),aU (show j<1000000000 by omega)]
   by_cases h0:0<=p[j]!
   · rw [dec_f (by omega),Bool.not_false,cond_true,aE L i (by omega),aB,if_pos h0,if_pos h0];rfl
   · rw [aJ (by omega),Bool.not_true,cond_false,if_neg h0,if_neg h0]
  rw [aY st];refine ih _ _ _ (by omega) ?_
  by_cases h0:0<=p[j]!
  · rw [if_pos h0,if_pos h0]
    refine ⟨by rw [List.length_set];exact hl,by omega,by omega,?_,fun k hk hk2=>?_⟩
    · rw [pI (by omega),if_pos h0,<- h.got,hY (by rw [List.length_set];omega),bE,if_pos ⟨rfl,by omega⟩,List.take_set_of_le (Nat.le_refl i)]
    · rw [bE,if_neg (by omega)];exact h.rest k (by omega) hk2
  · rw [if_neg h0,if_neg h0]
    refine ⟨hl,by omega,by omega,?_,fun k hk hk2=>h.rest k (by omega) hk2⟩
    rw [pI (by omega),if_neg h0,List.append_nil];exact h.got
theorem YU: ∀{l:List Int},(∀x∈l,0<=x)->iV l=l:=fun {l} h=>List.filter_eq_self.2 fun x hx=>by simpa using h x hx
theorem QY (p:List Int) (hp:p.length<=1000): ∃(n:Nat) (M:List Int),cI p=some (n,p.length,M)/\n=(iV p).length/\M.length=p.length/\M.take n=iV p:=by
 have key: ∀(d m:Nat),p.length-m<=d->m<=p.length->(∀k,k<m->0<=p[k]!)-> ∃(n:Nat) (M:List Int),aH (bC p) ((p.length:Int),(m:Int),p)=some (n,p.length,M)/\n=(iV p).length/\M.length=p.length/\M.take n=iV p:=by
  intro d;have fin: ∀m,m=p.length->(∀k,k<m->0<=p[k]!)-> ∃(n:Nat) (M:List Int),aH (bC p) ((p.length:Int),(m:Int),p)=some (n,p.length,M)/\n=(iV p).length/\M.length=p.length/\M.take n=iV p:=by
   intro m hm h;subst hm;have e:iV p=p:=YU fun x hx=>by
    obtain ⟨i,hi,rfl⟩:=aW.1 hx;exact h i hi
   refine ⟨p.length,p,aL ?_,by rw [e],rfl,by rw [List.take_length,e]⟩
   unfold bC;simp only [dec_f (show¬(p.length:Int)<(p.length:Int) by omega),cond_false,beq_self_eq_true,cond_true]
  induction d with
  |zero=>exact fun m h1 h2 h=>fin m (by omega) h
  |succ d ih=>
   intro m h1 h2 h
   by_cases hm:m=p.length
   · exact fin m hm h
   by_cases h0:0<=p[m]!
   · have st:bC p ((p.length:Int),(m:Int),p)=some (.next ((p.length:Int),((m+1:Nat):Int),p)):=by
      unfold bC lI;simp only [aJ (show (m:Int)<(p.length:Int) by omega),cond_true,aE p m (by omega),aB,dec_f (show¬p[m]!<0 by omega),cond_false,aU (show m<1000000000 by omega)]
     rw [aY st];refine ih (m+1) (by omega) (by omega) fun k hk=>?_
     by_cases e:k=m
     · rw [e];exact h0
     · exact h k (by omega)
   · have hd:ST p m (m+1) p:=⟨rfl,by omega,by omega,by
      rw [pI (by omega),if_neg h0,List.append_nil,YU fun x hx=>?_]
      obtain ⟨i,hi,_,rfl⟩:=cD.1 hx;exact h i hi,fun k _ _=>rfl⟩
     obtain ⟨n,M,m1,m2,m3,m4⟩:=aTn hp p.length m (m+1) p (by omega) hd
     refine ⟨n,M,aL ?_,m2,m3,m4⟩;unfold bC lI;simp only [aJ (show (m:Int)<(p.length:Int) by omega),cond_true,aE p m (by omega),aB,aJ (show p[m]!<0 by omega),beq_self_eq_true,eD (show (m:Int)≠ -1 by omega),cond_false,aU (show m<1000000000 by omega),m1]
 unfold cI;exact key p.length 0 (by omega) (Nat.zero_le _) (fun k hk=>absurd hk (Nat.not_lt_zero k))
def aDi (n:Nat):Prop:= ∃i,i<7/\n=2^i
theorem YV {n:Nat} (h1:1<=n) (h2:n<=64):GY .i64 (n:Int) ((n-1:Nat):Int)=0↔aDi n:=by
 have key: ∀k:Fin 65,1<=k.val->((GY .i64 (k.val:Int) ((k.val-1:Nat):Int)=0)↔ ∃i,i<7/\k.val=2^i):=by decide+kernel
 exact key ⟨n,by omega⟩ h1
theorem dbl {q:Nat} (h:q<=64):aA .i64 ((q:Int)*2)=((2*q:Nat):Int):=by rw [qS ⟨by omega,by omega⟩];omega
theorem aMW (i:Nat):2^(i+1)=2*2^i:=by rw [Nat.pow_succ];omega
theorem QA {n:Nat}:zG (n:Int)=some (decide (aDi n)):=by
 have st:=qA (body:=rY) (fun i=>((n:Int),((2^i:Nat):Int))) 7 (fun i=>n≠2^i) (r:=true) (e:=false) (fun i hi=>by
  have b1:2^i<=64:=Nat.le_trans (Nat.pow_le_pow_right (by omega) (show i<=6 by omega)) (by decide)
  unfold rY;simp only [aJ (show ((2^i:Nat):Int)<=64 by omega),cond_true]
  by_cases h:n=2^i
  · rw [dY (by omega)];exact ⟨fun _=>rfl,fun k=>absurd h k⟩
  · rw [eD (by omega),cond_false,dbl b1,aMW]
    exact ⟨fun k=>absurd h k,fun _=>rfl⟩) (by
  unfold rY
  rfl)
 unfold zG;refine (show _=_ from st).trans ?_
 by_cases h:aDi n
 · obtain ⟨i,hi,e⟩:=h
   rw [if_neg (fun k=>k i hi e),aJ ⟨i,hi,e⟩]
 · rw [if_pos (fun i hi e=>h ⟨i,hi,e⟩),dec_f h]
theorem tN (f:List Pt):(qV f).length=f.length:=List.length_map ..
theorem C5 {f:List Pt} {i:Nat} (h:i<f.length):(qV f)[i]! =(f[i]!).1:=by
 unfold qV;rw [getElem!_pos _ i (by rw [List.length_map];exact h),getElem!_pos f i h,List.getElem_map]
section
variable {f : List Pt} (h64 : f.length <= 64)
include h64
end
theorem aAM:EM=ES:=rfl
structure LD (k:cC):Prop where
 clk:aV k.clock
 br:YP k.bracket.places k.bracket.wins
 pow:aDi k.bracket.places.length
 perm:(qV k.clock.field.points).Perm (iV k.bracket.places)
 right:k.bracket.wins=bG k.clock.field.points k.clock.now k.bracket.places
 cert:(k.clock.certs.list.map fun x=>x.2).Perm (gI k.bracket.places k.bracket.wins)
theorem LE {p:List Int} {x:Int}:x∈iV p↔x∈p/\0<=x:=by unfold iV;rw [List.mem_filter];simp
theorem HR {f:List Pt} {p w:List Int} (br:YP p w) (pm:(qV f).Perm (iV p)):JT f p:=by
 refine ⟨br.one,br.most,br.once,fun x hx=>?_⟩
 have:=br.rng x hx
 by_cases h:0<=x
 · exact .inr ⟨h,MV.1 (pm.mem_iff.2 (LE.2 ⟨hx,h⟩))⟩
 · exact .inl (by omega)
theorem aAN {p:List Int} (h:HO p):(iV p).Nodup:=by
 have go: ∀(j:Nat),j<=p.length->(iV (p.take j)).Nodup:=by
  intro j
  induction j with
  |zero=>intro _;simp [iV]
  |succ j ih=>
   intro hj;rw [pI (by omega)]
   by_cases h0:0<=p[j]!
   · rw [if_pos h0]
     refine List.nodup_append.2 ⟨ih (by omega),by simp,fun a ha b hb e=>?_⟩
     obtain rfl:b=p[j]!:=by simpa using hb
     subst e;have hm:=(LE.1 ha).1;obtain ⟨i,hi,_,e⟩:=cD.1 hm
     have:=h i j hi (by omega) e
     omega
   · rw [if_neg h0,List.append_nil];exact ih (by omega)
 have:=go p.length (Nat.le_refl _)
 rwa [List.take_length] at this
theorem aAO {f:List Pt} (h:hU f):(qV f).Pairwise (· <= ·):=by
 refine List.pairwise_iff_getElem.2 fun i j hi hj hij=>?_
 rw [tN] at hi hj
 have:=oR h hij hj
 rw [<- getElem!_pos (qV f) i (by rw [tN];exact hi),<- getElem!_pos (qV f) j (by rw [tN];exact hj),C5 hi,C5 hj]
 omega
theorem YW {f:List Pt} (h:hU f) (l:List Int):nO l=qV f↔(qV f).Perm l:=by
 constructor
 · intro e;rw [<- e];exact xK l
 · intro pm
   exact List.Perm.eq_of_pairwise (le:=(· <= ·)) (fun a b _ _ h1 h2=>Int.le_antisymm h1 h2) (CA l) (aAO h) ((xK l).trans pm.symm)
theorem QZ (l:List Int) (f:List Pt) (hl:l.length<=1000):cN l f ()=some (decide (l=qV f)):=by
 unfold cN;simp only [aF]
 by_cases h:l.length=f.length
 case neg=>rw [dH (by omega),cond_true,dec_f (fun e=>h (by rw [e,tN]))]
 rw [bO (by omega),cond_false]
 have key:=qA (body:=cE) (fun i=>(f,l,(l.length:Int),(i:Int))) l.length (fun i=>l[i]! =(f[i]!).1) (r:=false) (e:=true) (fun i hi=>by
  unfold cE xP;simp only [aJ (show (i:Int)<(l.length:Int) by omega),cond_true,aE l i hi,aE f i (by omega),aB,aU (show i<1000000000 by omega)]
  by_cases q:l[i]! =(f[i]!).1
  · rw [dY q];exact ⟨fun w=>absurd q w,fun _=>rfl⟩
  · rw [eD q];exact ⟨fun _=>rfl,fun w=>absurd w q⟩) (by
  unfold cE;simp only [dec_f (show¬(l.length:Int)<(l.length:Int) by omega),cond_false])
 refine (show _=_ from key).trans ?_
 by_cases q:l=qV f
 · rw [if_pos (fun i hi=>by rw [q,C5 (by omega)]),aJ q]
 · rw [if_neg (fun w=>q (vN (by rw [tN];exact h) fun i hi=>by rw [w i hi,C5 (by omega)])),dec_f q]
theorem U2 (a b:List Int) (ha:a.length<=1000):oN a b=some (decide (a=b)):=by
 unfold oN;simp only [aF]
 by_cases h:a.length=b.length
 case neg=>rw [dH (by omega),cond_true,dec_f (fun e=>h (by rw [e]))]
 rw [bO (by omega),cond_false]
 have key:=qA (body:=kX) (fun i=>(a,b,(a.length:Int),(i:Int))) a.length (fun i=>a[i]! =b[i]!) (r:=false) (e:=true) (fun i hi=>by
  unfold kX;simp only [aJ (show (i:Int)<(a.length:Int) by omega),cond_true,aE a i hi,aE b i (by omega),aB,aU (show i<1000000000 by omega)]
  by_cases q:a[i]! =b[i]!
  · rw [bO q];exact ⟨fun w=>absurd q w,fun _=>rfl⟩
  · rw [dH q];exact ⟨fun _=>rfl,fun w=>absurd w q⟩) (by
  unfold kX;simp only [dec_f (show¬(a.length:Int)<(a.length:Int) by omega),cond_false])
 refine (show _=_ from key).trans ?_
 by_cases q:a=b
 · rw [if_pos (fun i _=>by rw [q]),aJ q]
 · rw [if_neg (fun w=>q (vN h w)),dec_f q]
theorem YX {n:Nat} {M:List Int} (hn:n<=M.length) (hm:M.length<=1000):FA TD n M=some (nO (M.take n)++M.drop n):=by
 unfold FA LN TD;rw [if_pos hn,if_pos (by rw [List.length_take];omega)]
 simp only [wX,if_true,Option.map_some]
theorem SU {c:aO} (ok:aV c) {es:List (Int×Int)} (_nd:es.Nodup):(es.length=c.certs.list.length/\ ∀i,i<c.certs.list.length->(c.certs.list[i]!).2∈es)↔(c.certs.list.map fun x=>x.2).Perm es:=by
 have cl:(c.certs.list.map fun x=>x.2).length=c.certs.list.length:=List.length_map ..
 constructor
 · rintro ⟨h1,h2⟩
   exact yF (E3 ok.crt) (fun x hx=>by
    obtain ⟨i,hi,rfl⟩:=yH.2 hx;exact h2 i hi) (by omega)
 · intro h
   exact ⟨by rw [<- h.length_eq,cl],fun i hi=>h.mem_iff.1 (yH.1 ⟨i,hi,rfl⟩)⟩
theorem MH {k:cC} (fit:vP k.clock) (hl:k.bracket.places.length<=1000) (wl:k.bracket.wins.length<=1000):wN k=some (if LD k then 0 else 8):=by
 unfold wN;rw [lT fit,aB]
 by_cases ok:aV k.clock
 case neg=>rw [if_neg ok,if_neg (fun h=>ok h.clk)];rfl
 rw [if_pos ok,bO rfl,cond_false,show pE k.bracket=_ from LC k.bracket.places k.bracket.wins hl wl,aB]
 by_cases br:YP k.bracket.places k.bracket.wins
 case neg=>rw [if_neg br,if_neg (fun h=>br h.br)];rfl
 have b1:=br.one;have b2:=br.most;rw [if_pos br,bO rfl,cond_false,aF,pQ (by omega) b1]
 by_cases pw:aDi k.bracket.places.length
 case neg=>rw [dH (fun h=>pw ((YV b1 b2).1 h)),cond_true,if_neg (fun h=>pw h.pow)]
 rw [bO ((YV b1 b2).2 pw),cond_false,aX (by omega),aB]
 obtain ⟨n,M,e1,e2,e3,e4⟩:=QY k.bracket.places hl;have nl:n<=M.length:=by
  have:=List.length_filter_le (fun x:Int=>decide (0<=x)) k.bracket.places
  rw [e2,e3];exact this
 have tk:(nO (M.take n)++M.drop n).take n=nO (iV k.bracket.places):=by
  rw [List.take_append_of_le_length (by rw [wX,List.length_take];omega),List.take_of_length_le (by rw [wX,List.length_take];omega),e4]
 have ll:(nO (M.take n)++M.drop n).length=M.length:=by rw [List.length_append,wX,List.length_take,List.length_drop];omega
 have fe:k.clock.field=⟨k.clock.field.points⟩:=rfl;rw [e1,aB];dsimp only;rw [YX nl (by omega),aB,ll,beq_self_eq_true,cond_true,tk,QZ _ _ (by rw [wX];omega),aB]
 by_cases pm:(qV k.clock.field.points).Perm (iV k.bracket.places)
 case neg=>rw [dec_f (fun h=>pm ((YW ok.fld.2.2 _).1 h)),if_neg (fun h=>pm h.perm)];rfl
 have pl:=HR br pm;rw [aJ ((YW ok.fld.2.2 _).2 pm),Bool.not_true,cond_false,fe,yI ok.fld ok.nowv ok.now64 pl,aB];dsimp only;obtain ⟨_,nd,el⟩:=sI ok.fld ok.now64 (t:=k.clock.now) pl;have R:=eC (f:=k.clock.field.points) (t:=k.clock.now) pl.one;rw [U2 _ _ (by have:=R.1;omega),aB]
 by_cases hw:bG k.clock.field.points k.clock.now k.bracket.places=k.bracket.wins
 case neg=>rw [dec_f hw,if_neg (fun h=>hw h.right.symm)];rfl
 rw [aJ hw,Bool.not_true,cond_false,aAM,aMS _ _ (by omega) (by have:=ok.bd;omega),aB]
 by_cases hc:(k.clock.certs.list.map fun x=>x.2).Perm (gI k.bracket.places (bG k.clock.field.points k.clock.now k.bracket.places))
 · rw [aJ ((SU ok nd).2 hc),if_pos ⟨ok,br,pw,pm,hw.symm,by rw [<- hw];exact hc⟩];rfl
 · rw [dec_f (fun h=>hc ((SU ok nd).1 h)),if_neg (fun h=>hc (by rw [hw];exact h.cert))];rfl
theorem QB {f:List Pt} (fok:cZ f) (p:List Int) (hp:p.length<=1000):zH ⟨f⟩ p=some (decide (∀i,i<p.length->p[i]! = -1\/oF f p[i]!)):=by
 have st:=qA (body:=rZ) (fun i=>(p,(i:Int),f)) p.length (fun i=>p[i]! = -1\/oF f p[i]!) (r:=false) (e:=true) (fun i hi=>by
  unfold rZ;simp only [aF,aJ (show (i:Int)<(p.length:Int) by omega),cond_true,aE p i hi,aB,aU (show i<1000000000 by omega)]
  by_cases h:p[i]! = -1
  · rw [bO h];exact ⟨fun k=>absurd (.inl h) k,fun _=>rfl⟩
  · rw [dH h,cond_true]
    by_cases h2:oF f p[i]!
    · obtain ⟨m,_,e,_⟩:=CZ fok h2
      rw [e,aB,dec_f (by omega)];exact ⟨fun k=>absurd (.inr h2) k,fun _=>rfl⟩
    · rw [aAD fok h2,aB]
      exact ⟨fun _=>rfl,fun k=>by rcases k with k|k;exact absurd k h;exact absurd k h2⟩) (by
  unfold rZ;simp only [aF,dec_f (show¬(p.length:Int)<(p.length:Int) by omega),cond_false])
 unfold zH;refine (show _=_ from st).trans ?_
 by_cases h: ∀i,i<p.length->p[i]! = -1\/oF f p[i]!
 · rw [if_pos h,aJ h]
 · rw [if_neg h,dec_f h]
theorem Q0 {f:List Pt} (fok:cZ f) {t:Int×Int} (r64:oY t) {p w:List Int} (br:YP p w) (pl:JT f p):xX ⟨p,w⟩ ⟨f⟩ t=some (decide (w=bG f t p)):=by
 have b2:=br.most;have b3:=br.len;have st:=qA (body:=uE) (fun i=>((i:Int),p,w,f,t)) w.length (fun i=>w[i]! =F0 f t (bR p w (2*i+1)) (bR p w (2*i+2))) (r:=false) (e:=true) (fun i hi=>by
  have k1:=sH (i:=i) (by omega) 1 (by omega)
  have k2:=sH (i:=i) (by omega) 2 (by omega)
  unfold uE;simp only [aF,aJ (show (i:Int)<(w.length:Int) by omega),cond_true,show aA .i64 (aA .i64 (2*(i:Int))+1)=((2*i+1:Nat):Int) from k1,show aA .i64 (aA .i64 (2*(i:Int))+2)=((2*i+2:Nat):Int) from k2,
   qX (p:=p) (w:=w) (i:=2*i+1) (by omega) (by omega),qX (p:=p) (w:=w) (i:=2*i+2) (by omega) (by omega),aB,aE w i hi,aU (show i<1000000000 by omega),
   JR fok r64 (pl.ids _ (jT b3 br.cho (i:=2*i+1) (by omega))) (pl.ids _ (jT b3 br.cho (i:=2*i+2) (by omega)))]
  by_cases h:w[i]! =F0 f t (bR p w (2*i+1)) (bR p w (2*i+2))
  · rw [bO h];exact ⟨fun k=>absurd h k,fun _=>rfl⟩
  · rw [dH h];exact ⟨fun _=>rfl,fun k=>absurd k h⟩) (by
  unfold uE;simp only [aF,dec_f (show¬(w.length:Int)<(w.length:Int) by omega),cond_false])
 unfold xX;refine (show _=_ from st).trans ?_;have R:=eC (f:=f) (t:=t) pl.one
 by_cases h:w=bG f t p
 · rw [if_pos (by rw [h];exact R.2),aJ h]
 · rw [if_neg (fun k=>h (SP ⟨b3,k⟩ R)),dec_f h]
theorem YY {f:List Pt} (fok:cZ f) {t:Int×Int} {p:List Int} (pl:JT f p) {e:Int×Int} (he:e∈gI p (bG f t p)):eX (gN f e.2) (gN f e.1) t:=by
 have R:=eC (f:=f) (t:=t) pl.one;have R1:=R.1;obtain ⟨i,hi,h⟩:=HP.1 he;obtain ⟨a1,a2,a3⟩:=C3 h;have ne:=MX R.1 R.chosen pl.once hi a1;have hx:=(pl.ids _ (jT R.1 R.chosen (i:=2*i+1) (by omega))).has a1
 have hy:=(pl.ids _ (jT R.1 R.chosen (i:=2*i+2) (by omega))).has a2
 have wv:=R.2 i hi;unfold F0 at wv;rw [if_neg (by omega),if_neg (by omega)] at wv
 by_cases ld:eX (gN f (bR p (bG f t p) (2*i+1))) (gN f (bR p (bG f t p) (2*i+2))) t
 · rw [if_pos ld] at wv
   rcases a3 with ⟨rfl,_⟩|⟨_,h⟩
   · exact ld
   · exact absurd wv h
 · rw [if_neg ld] at wv
   rcases a3 with ⟨_,h⟩|⟨rfl,_⟩
   · rw [wv] at h;exact absurd h.symm ne
   · exact zU t (by rw [(dN fok hx).2,(dN fok hy).2];exact ne) ld
theorem QC {k:cC} (fit:vP k.clock) (hl:k.bracket.places.length<=1000) (wl:k.bracket.wins.length<=1000):vM k=some (if LD k then 0 else 8):=by
 unfold vM;rw [PM fit,aB]
 by_cases ok:aV k.clock
 case neg=>rw [if_neg ok,if_neg (fun h=>ok h.clk)];rfl
 rw [if_pos ok,bO rfl,cond_false,show vL k.bracket=_ from P6 k.bracket.places k.bracket.wins hl wl,aB]
 by_cases br:YP k.bracket.places k.bracket.wins
 case neg=>rw [if_neg br,if_neg (fun h=>br h.br)];rfl
 have b1:=br.one;have b2:=br.most;rw [if_pos br,bO rfl,cond_false,aF,QA,aB]
 by_cases pw:aDi k.bracket.places.length
 case neg=>rw [dec_f pw,if_neg (fun h=>pw h.pow)];rfl
 have fe:k.clock.field=⟨k.clock.field.points⟩:=rfl;rw [aJ pw,Bool.not_true,cond_false,fe,QB ok.fld _ hl,aB]
 by_cases pm:(qV k.clock.field.points).Perm (iV k.bracket.places)
 case neg=>
  by_cases kn: ∀i,i<k.bracket.places.length->k.bracket.places[i]! = -1\/oF k.clock.field.points k.bracket.places[i]!
  case neg=>rw [dec_f kn,if_neg (fun h=>pm h.perm)];rfl
  rw [aJ kn,Bool.not_true,cond_false,JU _ hl,aB,aF,aF,if_neg (fun h=>pm h.perm)]
  rw [dH (fun h=>pm ?_)]
  · rfl
  have h:((iV k.bracket.places).length:Int)=(k.clock.field.points.length:Int):=h;refine (yF (aAN br.once) (fun x hx=>?_) (by rw [tN];omega)).symm
  obtain ⟨h1,h2⟩:=LE.1 hx;obtain ⟨i,hi,rfl⟩:=aW.1 h1;rcases kn i hi with e|e
  · omega
  · exact MV.2 e
 have pl:=HR br pm;have kn: ∀i,i<k.bracket.places.length->k.bracket.places[i]! = -1\/oF k.clock.field.points k.bracket.places[i]!:=fun i hi=>by
  rcases pl.ids _ (bL hi) with e|e
  · exact .inl e
  · exact .inr e.2
 rw [aJ kn,Bool.not_true,cond_false,JU _ hl,aB,aF,aF,bO (by rw [<- pm.length_eq,tN]),cond_false,show xX k.bracket ⟨k.clock.field.points⟩ k.clock.now=_ from Q0 ok.fld ok.now64 br pl,aB]
 by_cases hw:k.bracket.wins=bG k.clock.field.points k.clock.now k.bracket.places
 case neg=>rw [dec_f hw,if_neg (fun h=>hw h.right)];rfl
 obtain ⟨eok,nd,el⟩:=sI ok.fld ok.now64 (t:=k.clock.now) pl;rw [aJ hw,Bool.not_true,cond_false,show BC k.bracket=_ from L8 br.len b2,aB];rw [hw];rw [aMO ok _ eok.kn,aB]
 by_cases hc:(k.clock.certs.list.map fun x=>x.2).Perm (gI k.bracket.places (bG k.clock.field.points k.clock.now k.bracket.places))
 · rw [aJ (show _/\_ from ⟨by rw [<- hc.length_eq,List.length_map],fun i hi=>⟨yH.2 (hc.mem_iff.2 (bL hi)),YY ok.fld pl (bL hi)⟩⟩),if_pos ⟨ok,br,pw,pm,hw,by rw [hw];exact hc⟩];rfl
 · rw [dec_f (fun h=>hc ?_),if_neg (fun h=>hc (by have:=h.cert;rw [hw] at this;exact this))]
   · rfl
   have cl:(k.clock.certs.list.map fun x=>x.2).length=k.clock.certs.list.length:=List.length_map ..
   refine (yF nd (fun x hx=>?_) (by omega)).symm
   obtain ⟨i,hi,rfl⟩:=aW.1 hx;exact yH.1 (h.2 i hi).1
section
variable {f : List Pt} (fok : cZ f) {t : Int × Int} {p w : List Int} (pl : JT f p) (R : SK f t p w)
include fok pl R
end
structure C6 (k:cC):Prop where
 c:PQ k.clock
 p:k.bracket.places.length<=1000
 w:k.bracket.wins.length<=1000
theorem GN:C6 zV:=⟨QV,Nat.zero_le _,Nat.zero_le _⟩
theorem QD {k:cC} (h:C6 k):xZ k k=some true:=by
 have h1:=h.p;have h2:=h.w;unfold xZ HI;rw [aAG h.c,aB,cond_true,YL _ (by omega),aB,cond_true,YL _ (by omega),aB,aB]
theorem QE {k:cC} (h:C6 k):sV k=some k:=by
 have h1:=h.p;have h2:=h.w;unfold sV CC;rw [aAH h.c,aB,aX (by omega),aB,aX (by omega),aB,aB]
theorem YZ (k:cC):vC k=some true\/(vC k=some false/\C6 k):=by
 unfold vC EI
 rcases YI k.clock with e|⟨e,sh⟩
 · rw [e];exact .inl rfl
 rw [e,aB,cond_false];simp only [aF]
 by_cases h:70<k.bracket.places.length
 · rw [aJ (by omega)];exact .inl rfl
 · rw [dec_f (by omega),cond_false,aB]
   by_cases h2:70<k.bracket.wins.length
   · rw [aJ (by omega)];exact .inl rfl
   · rw [dec_f (by omega)];exact .inr ⟨rfl,sh,by omega,by omega⟩
theorem aTm.short {c:aO} {f:List Pt} {p:List Int} {k:cC} (pl:JT f p) (h:aTm c f p k):C6 k:=by
 have R:=eC (f:=f) (t:=c.now) pl.one;have b2:=pl.most;have b3:=R.1;refine ⟨h.ren.ok.short,by rw [h.places];show p.length<=1000;omega,by rw [h.places];show (bG f c.now p).length<=1000;omega⟩
theorem LD.fit (k:cC) (n:aDe k.clock) (sh:C6 k):vP k.clock:=⟨n.now,⟨sh.c.s3,sh.c.h,sh.c.w,n.at64⟩,sh.c.d⟩
theorem aDj {c:aO} (ok:aV c) {to:Int×Int} (rt:bQ to) (due: ¬YR c to) {y:vO} (hy:y∈c.certs.list) (is:(bH c.field.points y.2 c.now).2=true):
 to.1*(bH c.field.points y.2 c.now).1.2<(bH c.field.points y.2 c.now).1.1*to.2:=by
 obtain ⟨d,hd,_,ev⟩:=ok.fol.has _ hy is;obtain ⟨v,hv,he⟩:=aW.1 ev;have tl:=K7 ok.agd v hv;have h0:0<c.agenda.heap.length:=by omega
 have e0:=(ok.agd.ev 0 h0).1.1;have ev':=(ok.agd.ev v hv).1.1;rw [he] at tl ev';have n1: ¬mW (bH c.field.points y.2 c.now).1 (Ev.at c.agenda.heap[0]!)<0:=fun q=>tl (.inl q)
 rw [zS] at n1;have n2: ¬mW (Ev.at c.agenda.heap[0]!) to<=0:=fun q=>due ⟨h0,q⟩
 have n3:to.1*(Ev.at c.agenda.heap[0]!).2<(Ev.at c.agenda.heap[0]!).1*to.2:=by
  unfold mW at n2;rcases eU ((Ev.at c.agenda.heap[0]!).1*to.2) (to.1*(Ev.at c.agenda.heap[0]!).2) with ⟨a,b⟩|⟨a,b⟩|⟨a,b⟩<;>omega
 exact AM rt.1 e0 ev' n3 (Int.not_lt.1 n1)
theorem aFG {c:aO} (ok:aV c) {to:Int×Int} (rt:bQ to) (r64:oY to) (le: ¬mW to c.now<0) (due: ¬YR c to):aV (atT c to):=by
 have pt:=fun (x:Int×Int) (hb:jS c.field.points x)=>And.intro (dN ok.fld hb.2).1 (dN ok.fld hb.1).1
 refine ⟨rt,r64,ok.fld,ok.crt,ok.agd,ok.w200,ok.hd,ok.known,?_⟩;refine aT.time (t:=c.now) (fun y hy=>?_) ok.fol
 obtain ⟨j,hj,rfl⟩:=aW.1 hy;have hb:=ok.known j hj;refine PR (pt _ hb).1 (pt _ hb).2 ok.nowv rt (by rw [zS] at le;exact Int.not_lt.1 le) (fun is=>?_)
 exact Int.le_of_lt (aDj ok rt due hy is)
structure aVX (c:aO) (l:List Int):Prop where
 ok:aV c
 pm:(qV c.field.points).Perm l
 ct:(c.certs.list.map fun x=>x.2).Perm (E2 l)
theorem aVX.bd {c:aO} {l:List Int} (h:aVX c l):l.length<=64:=by
 have:=h.ok.bd
 have:l.length=c.field.points.length:=by rw [<- h.pm.length_eq];exact List.length_map ..
 omega
theorem QF {c:aO} (ok:aV c) {lo hi:Int} (hb:jS c.field.points (lo,hi)) (h:wB c.certs.list (lo,hi)) {to:Int×Int} (rt:bQ to) (le: ¬mW to c.now<0) (due: ¬YR c to):
 ¬eX (gN c.field.points lo) (gN c.field.points hi) to:=by
 obtain ⟨w,w1,w2⟩:=h;have hk':=(dN ok.fld hb.2).1;have hj':=(dN ok.fld hb.1).1;have wn:bH c.field.points (c.certs.list[w]!).2 c.now=mX (gN c.field.points hi) (gN c.field.points lo) c.now:=by
  unfold bH;rw [w2]
 refine aMU hk' hj' ok.nowv rt (by rw [zS] at le;omega) fun is=>?_
 rw [<- wn] at is;obtain ⟨d,hd,_,ev⟩:=ok.fol.has _ (bL w1) is;obtain ⟨v,hv,he⟩:=aW.1 ev;have tl:=K7 ok.agd v hv;have h0:0<c.agenda.heap.length:=by omega
 have e0:=(ok.agd.ev 0 h0).1.1;have ev':=(ok.agd.ev v hv).1.1;rw [he] at tl ev';rw [<- wn];have n1: ¬mW (bH c.field.points (c.certs.list[w]!).2 c.now).1 (Ev.at c.agenda.heap[0]!)<0:=fun q=>tl (.inl q)
 rw [zS] at n1;have n2: ¬mW (Ev.at c.agenda.heap[0]!) to<=0:=fun q=>due ⟨h0,q⟩
 have n3:to.1*(Ev.at c.agenda.heap[0]!).2<(Ev.at c.agenda.heap[0]!).1*to.2:=by
  unfold mW at n2;rcases eU ((Ev.at c.agenda.heap[0]!).1*to.2) (to.1*(Ev.at c.agenda.heap[0]!).2) with ⟨a,b⟩|⟨a,b⟩|⟨a,b⟩<;>omega
 exact AM rt.1 e0 ev' n3 (Int.not_lt.1 n1)
theorem AT {c:aO} (ok:aV c) {p:List Int} (pl:JT c.field.points p) (ct: ∀e∈gI p (bG c.field.points c.now p),wB c.certs.list e) {to:Int×Int} (rt:bQ to) (le: ¬mW to c.now<0) (due: ¬YR c to):
 bG c.field.points to p=bG c.field.points c.now p:=by
 have R:=eC (f:=c.field.points) (t:=c.now) pl.one;have R1:=R.1;refine SP (eC pl.one) ⟨R.1,fun i hi=>?_⟩
 have wv:=R.2 i hi;have ne:=MX R.1 R.chosen pl.once hi;have ix:=pl.ids _ (jT R.1 R.chosen (i:=2*i+1) (by omega))
 have iy:=pl.ids _ (jT R.1 R.chosen (i:=2*i+2) (by omega))
 have mem: ∀e,DN p (bG c.field.points c.now p) i=some e->wB c.certs.list e:=fun e h=>ct e (HP.2 ⟨i,hi,h⟩)
 unfold DN at mem;rw [wv];rw [wv] at mem;generalize bR p (bG c.field.points c.now p) (2*i+1)=x at*;generalize bR p (bG c.field.points c.now p) (2*i+2)=y at*;unfold F0 at*
 by_cases x0:x<0
 · rw [if_pos x0,if_pos x0]
 rw [if_neg x0,if_neg x0]
 by_cases y0:y<0
 · rw [if_pos y0,if_pos y0]
 rw [if_neg y0,if_neg y0];rw [if_neg x0,if_neg y0,if_neg (show¬(x<0\/y<0) by omega)] at mem
 have hx:=ix.has (by omega)
 have hy:=iy.has (by omega)
 have nxy:=ne (by omega)
 by_cases ld:eX (gN c.field.points x) (gN c.field.points y) c.now
 · rw [if_pos ld]
   rw [if_pos ld,if_pos rfl] at mem;have st:=QF ok (lo:=y) (hi:=x) ⟨hy,hx⟩ (mem _ rfl) rt le due;rw [if_pos (zU to (by rw [(dN ok.fld hx).2,(dN ok.fld hy).2];exact fun h=>nxy h.symm) st)]
 · rw [if_neg ld]
   rw [if_neg ld,if_neg (fun h=>nxy h.symm)] at mem
   have st:=QF ok (lo:=x) (hi:=y) ⟨hx,hy⟩ (mem _ rfl) rt le due;rw [if_neg st]
def tP (c:aO) (p w:List Int) (to:Int×Int) (out:List (Int×Int)):=
 (c.now.1,c.now.2,c.field.points,c.certs.next_,c.certs.list,c.agenda.slots.uses,c.agenda.slots.used,c.agenda.slots.free,c.agenda.heap,c.agenda.where_,c.due,p,w,to.1,to.2,(0:Int),(0:Int),(0:Int),out)
def tR (c:aO) (p w:List Int) (to:Int×Int) (out:List (Int×Int)):=
 (to.1,to.2,(0:Int),(0:Int),(0:Int),c.now.1,c.now.2,c.field.points,c.certs.next_,c.certs.list,c.agenda.slots.uses,c.agenda.slots.used,c.agenda.slots.free,c.agenda.heap,c.agenda.where_,c.due,p,w,out)
structure QG (r:cC×List (Int×Int)×Int):Prop where
 h:C6 r.1
 l:r.2.1.length<=1048576
structure aXE (f:List Pt) (p:List Int) (to:Int×Int) (k:cC):Prop where
 clk:aV k.clock
 fld:k.clock.field.points=f
 now:k.clock.now=to
 br:k.bracket=⟨p,bG f to p⟩
 cert:(k.clock.certs.list.map fun x=>x.2).Perm (gI p (bG f to p))
 due: ¬YR k.clock to
def aMX (f:List Pt) (p:List Int) (to:Int×Int) (r:cC×List (Int×Int)×Int):Prop:=r.2.2=18\/(r.2.2=0/\aXE f p to r.1)
theorem QH {to:Int×Int} (rt:bQ to) (r64:oY to) {p:List Int} (d:Int)
 (ih: ∀(c:aO) (out:List (Int×Int)),1000000-oW c<d->aV c->JT c.field.points p->(c.certs.list.map fun x=>x.2).Perm (gI p (bG c.field.points c.now p))-> ¬mW to c.now<0->(out.length:Int)<=oW c+200->
  ∃R:cC×List (Int×Int)×Int,aH fI (tP c p (bG c.field.points c.now p) to out)=some R/\aH gZ (tR c p (bG c.field.points c.now p) to out)=some R/\QG R/\aMX c.field.points p to R)
 (c:aO) (out:List (Int×Int)) (hd:1000000-oW c<=d) (ok:aV c) (pl:JT c.field.points p) (cp:(c.certs.list.map fun x=>x.2).Perm (gI p (bG c.field.points c.now p))) (le: ¬mW to c.now<0) (ho:(out.length:Int)<=oW c+200):
 ∃R:cC×List (Int×Int)×Int,aH fI (tP c p (bG c.field.points c.now p) to out)=some R/\aH gZ (tR c p (bG c.field.points c.now p) to out)=some R/\QG R/\aMX c.field.points p to R:=by
 have bd:=ok.bd;have rb:=U0 ok;have B:=eC (f:=c.field.points) (t:=c.now) pl.one;have B1:=B.1;have pm:=pl.most;have ceta:(aO.mk (c.now.1,c.now.2) (Field.mk c.field.points) (bI.mk c.certs.next_ c.certs.list) (aP.mk (aZ.mk c.agenda.slots.uses c.agenda.slots.used c.agenda.slots.free) c.agenda.heap c.agenda.where_) c.due)=c:=rfl;have teta:((to.1,to.2):Int×Int)=to:=rfl
 have ct: ∀e∈gI p (bG c.field.points c.now p),wB c.certs.list e:=fun e he=>yH.2 (cp.mem_iff.2 he)
 by_cases due:YR c to
 · obtain ⟨x,c1,e1,e2,ok1,hf,_,hr,hn⟩:=aFC ok rt r64 le due
   obtain ⟨R,s1,s2,s3⟩:=HQ ok1 ok1.fld (p:=p) (by rw [hf];exact pl)
   have s1:lK c1 c1.field p=some R:=s1;have s2:nE c1 c1.field p=some R:=s2;have ol:bV out [x]=some (out++[x]):=eT (by rw [List.length_singleton];omega)
   rcases s3 with ⟨q0,qs⟩|he
   · have st1:fI (tP c p (bG c.field.points c.now p) to out)=some (.next (tP R.1.clock R.1.bracket.places R.1.bracket.wins to (out++[x]))):=by
      unfold fI tP;simp only [ceta,teta,e1,aB,s1,q0,show ((0:Int) !=0)=false from rfl,cond_false,ol]
     have st2:gZ (tR c p (bG c.field.points c.now p) to out)=some (.next (tR R.1.clock R.1.bracket.places R.1.bracket.wins to (out++[x]))):=by
      unfold gZ tR;simp only [ceta,teta,P8 ok r64,aJ due,aB,cond_true,e2,s2,q0,show ((0:Int) !=0)=false from rfl,cond_false,ol]
     have rr:=qs.ren.room;rw [aY st1,aY st2,qs.places];have e3:bG c1.field.points c1.now p=bG R.1.clock.field.points R.1.clock.now p:=by rw [qs.ren.fld,qs.ren.now]
     dsimp only;rw [e3];have e4:R.1.clock.field.points=c.field.points:=by rw [qs.ren.fld,hf]
     have nd:=(sI qs.ren.ok.fld qs.ren.ok.now64 (t:=R.1.clock.now) (p:=p) (by rw [e4];exact pl)).2.1
     have cp2:(R.1.clock.certs.list.map fun x=>x.2).Perm (gI p (bG R.1.clock.field.points R.1.clock.now p)):=by
      refine (List.perm_ext_iff_of_nodup (E3 qs.ren.ok.crt) nd).2 fun e=>⟨fun h=>?_,fun h=>?_⟩
      · obtain ⟨x,hx,rfl⟩:=List.mem_map.1 h
        rw [<- e3];exact qs.ren.sub x hx
      · rw [<- e3] at h
        exact yH.1 (qs.ren.has e h)
     rw [<- e4];refine ih R.1.clock _ (by omega) qs.ren.ok (by rw [e4];exact pl) cp2 (fun h=>?_) (by rw [List.length_append,List.length_singleton];omega)
     have h2:=due.2;rw [qs.ren.now,hn,zS] at h
     have: ¬0<mW (Ev.at c.agenda.heap[0]!) to:=by omega
     unfold mW at this;rcases eU ((Ev.at c.agenda.heap[0]!).1*to.2) (to.1*(Ev.at c.agenda.heap[0]!).2) with ⟨a,b⟩|⟨a,b⟩|⟨a,b⟩<;>omega
   · refine ⟨(zV,[],18),aL ?_,aL ?_,⟨GN,by decide⟩,.inl rfl⟩
     · unfold fI tP
       simp only [ceta,teta,e1,aB,s1,he,show ((0:Int) !=0)=false from rfl,show ((18:Int) !=0)=true from rfl,cond_false,cond_true];rfl
     · unfold gZ tR
       simp only [ceta,teta,P8 ok r64,aJ due,aB,cond_true,e2,s2,he,show ((18:Int) !=0)=true from rfl];rfl
 · have h1:mB c.field to p=_:=yI ok.fld rt r64 pl
   rw [AT ok pl ct rt le due] at h1;have sh:C6 ⟨c,⟨p,bG c.field.points c.now p⟩⟩:=⟨ok.short,by show p.length<=1000;omega,by show (bG c.field.points c.now p).length<=1000;omega⟩
   have tw:=QE sh;refine ⟨(⟨atT c to,⟨p,bG c.field.points c.now p⟩⟩,out,0),aL ?_,aL ?_,⟨⟨?_,sh.p,sh.w⟩,by show out.length<=1048576;omega⟩,.inr ⟨rfl,aFG ok rt r64 le due,rfl,rfl,?_,?_,due⟩⟩
   · unfold fI tP
     simp only [ceta,teta,aFD ok rt r64 le due,aB,show ((6:Int) !=0)=true from rfl,cond_true,aMT ok rt r64 le due];rw [show mB (atT c to).field to p=_ from h1,aB]
   · unfold gZ tR
     simp only [ceta,teta,P8 ok r64,dec_f due,aB,cond_false,tw,aFE ok]
   · have:=ok.short
     exact ⟨this.f,this.l,this.d,this.h,this.w,this.s1,this.s2,this.s3⟩
   · rw [AT ok pl ct rt le due]
   · rw [AT ok pl ct rt le due];exact cp
theorem aFH {to:Int×Int} (rt:bQ to) (r64:oY to) {p:List Int}: ∀(d:Nat) (c:aO) (out:List (Int×Int)),1000000-oW c<=(d:Int)->aV c->JT c.field.points p->(c.certs.list.map fun x=>x.2).Perm (gI p (bG c.field.points c.now p))-> ¬mW to c.now<0->(out.length:Int)<=oW c+200->
 ∃R:cC×List (Int×Int)×Int,aH fI (tP c p (bG c.field.points c.now p) to out)=some R/\aH gZ (tR c p (bG c.field.points c.now p) to out)=some R/\QG R/\aMX c.field.points p to R:=by
 intro d
 induction d with
 |zero=>exact fun c out hd ok pl cp le ho=>QH rt r64 0 (fun c _ h ok _ _ _ _=>by have:=(U0 ok).2;omega) c out hd ok pl cp le ho
 |succ d ih=>exact fun c out hd ok pl cp le ho=>QH rt r64 ((d+1:Nat):Int) (fun c out h=>ih c out (by omega)) c out hd ok pl cp le ho
theorem HS {k:cC} (n:aDe k.clock) (sh:C6 k) {to:Int×Int} (r64:oY to):
 ∃R:cC×List (Int×Int)×Int,jN k to=some R/\kT k to=some R/\QG R/\(LD k->bQ to-> ¬mW to k.clock.now<0->aMX k.clock.field.points k.bracket.places to R):=by
 have fit:=LD.fit k n sh;have bad: ∀e:Int,QG (zV,[],e):=fun e=>⟨GN,Nat.zero_le _⟩
 have c1:=MH fit sh.p sh.w;have c2:=QC fit sh.p sh.w
 by_cases ok:LD k
 case neg=>
  rw [if_neg ok] at c1 c2;refine ⟨(zV,[],8),?_,?_,bad 8,fun h=>absurd h ok⟩
  · unfold jN;rw [c1];rfl
  · unfold kT;rw [c2];rfl
 rw [if_pos ok] at c1 c2
 by_cases rt:bQ to
 case neg=>
  have u:kM k.clock to=some 8:=by
   unfold kM;rw [oB r64,if_neg rt];rfl
  refine ⟨(zV,[],8),?_,?_,bad 8,fun _ h=>absurd h rt⟩
  · unfold jN
    rw [c1,aB,bO rfl,cond_false,dT r64,if_neg rt];rfl
  · unfold kT
    rw [c2,aB,bO rfl,cond_false,u];rfl
 by_cases le:mW to k.clock.now<0
 · have u:kM k.clock to=some 44:=by
    unfold kM;rw [oB r64,if_pos rt,aB,bO rfl,cond_false,yB r64 n.now,aB,aJ le];rfl
   refine ⟨(zV,[],44),?_,?_,bad 44,fun _ _ h=>absurd le h⟩
   · unfold jN
     rw [c1,aB,bO rfl,cond_false,dT r64,if_pos rt,aB,bO rfl,cond_false,KW r64 n.now,if_pos ⟨rt,ok.clk.nowv⟩,aB,aJ le];rfl
   · unfold kT
     rw [c2,aB,bO rfl,cond_false,u];rfl
 · have u:kM k.clock to=some 0:=by
    unfold kM;rw [oB r64,if_pos rt,aB,bO rfl,cond_false,yB r64 n.now,aB,dec_f le];rfl
   have rb:=U0 ok.clk;have pl:=HR ok.br ok.perm;obtain ⟨R,r1,r2,r3,r4⟩:=aFH rt r64 (p:=k.bracket.places) (1000000-oW k.clock).toNat k.clock [] (by omega) ok.clk pl (by rw [<- ok.right];exact ok.cert) le (by simp;omega)
   rw [<- ok.right] at r1 r2;refine ⟨R,?_,?_,r3,fun _ _ _=>r4⟩
   · unfold jN
     rw [c1,aB,bO rfl,cond_false,dT r64,if_pos rt,aB,bO rfl,cond_false,KW r64 n.now,if_pos ⟨rt,ok.clk.nowv⟩,aB,dec_f le];exact r1
   · unfold kT
     rw [c2,aB,bO rfl,cond_false,u,aB,bO rfl,cond_false];unfold HG;show (aH gZ (tR k.clock k.bracket.places k.bracket.wins to [])).bind _=_;rw [r2,aB]
theorem C7 (k:cC) (to:Int×Int) (n:aDe k.clock) (r64:oY to):sD k to=some true:=by
 unfold sD;rcases YZ k with e|⟨e,sh⟩
 · rw [e];rfl
 rw [e,aB,cond_false];unfold G9;rw [aB];cases decide (10<Int.ofNat k.clock.field.points.length) with
 |true=>rfl
 |false=>
  obtain ⟨R,r1,r2,r3,_⟩:=HS n sh r64;rw [cond_false,QE sh,aB,r1,aB,r2,aB,QD r3.h,aB,cond_true,aAJ _ r3.l,aB,cond_true,dY rfl,cond_true,QD sh,aB]
theorem aDe.of {c:aO} (h1:RT.wf [.i .i64,.i .i64] c.now) (h2: ∀a∈c.agenda.heap,RT.wf [.i .i64,.i .i64,.i .i64,.i .i64,.i .i64] a):aDe c where
 now:=⟨KN h1.1,KN h1.2⟩
 at64 w hw:=by
  have:=h2 (c.agenda.heap[w]!) (by rw [getElem!_pos c.agenda.heap w hw];exact List.getElem_mem hw)
  exact ⟨KN this.1,KN this.2.1⟩
end Go.Proofs.YtlnclppkepgdmaaGreat
