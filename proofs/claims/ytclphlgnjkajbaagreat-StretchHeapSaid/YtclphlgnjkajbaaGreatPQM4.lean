/- Plain laws (4). -/
import Derived.Test.YtclphlgnjkajbaaGreatPQM3
import Derived.Test.YtclphlgnjkajbaaGreatPQS2
import Derived.Test.YtclphlgnjkajbaaGreatPVm4
import Derived.Test.YtclphlgnjkajbaaGreatPVm3
open Bool renaming not_true->v4,true->ae2,false->ae5
open List renaming mem_map->v6,length_singleton->Do,mem_cons_of_mem->EQ,mem_cons_self->If,length_append->IR,length_map->NE,length_set->PP,mem_filter->UV,length_cons->acl,filter_cons->adc,drop_zero->adT,length->ae0
open Classical renaming byContradiction->ww
open Int renaming ofNat->AC,neg_mul->adM,mul_nonneg->adR,le_of_lt->adV,mul_comm->adZ
open Nat renaming lt_trichotomy->M2
open Option renaming some->ae1
open Decidable renaming decide->ae6
namespace Go.Proofs.YtclphlgnjkajbaaGreat
open Go.Vm Classical
theorem Eo {f:List Pt} (pG:dQ f) {l:List Int} (pm:(vg f).Perm l):rL f (cC l):=by
 have nd:=pm.nodup_iff.1 (qh pG.2.2);have f1:=pG.1;have ln:(ae0 l)=(ae0 f):=by rw [<- pm.length_eq];exact NE ..
 have hp: ∀e∈cC l,iY f e:=fun e he=>⟨oD.1 (pm.mem_iff.2 (Bk he).1),oD.1 (pm.mem_iff.2 (Bk he).2)⟩
 refine ⟨by rw [ju];omega,fun e he=>?_,hp⟩;obtain ⟨⟨p1,p2⟩,q1,q2⟩:=And.intro (dL pG (hp e he).1) (dL pG (hp e he).2);have ne:=Jg nd he;unfold ff at p1 q1;unfold g8;omega
def iW (l:List Int) (i j:Nat):List Int:=(l.set i l[j]!).set j l[i]!
theorem tu {l:List Int} {i j:Nat} (hi:i<ae0 l) (hj:j<ae0 l):(iW l i j).Perm l:=by unfold iW;rw [getElem!_pos l i hi,getElem!_pos l j hj];exact List.set_set_perm hi hj
theorem Ep (l:List Int) (hl:(ae0 l)<=1000000):dj l l=ae1 ae2:=by unfold dj;rw [bz rfl,pp];have:=eC (body:=fo) (fun i=>(l,l,(i:Int))) (ae0 l) (fun i hi=>by unfold fo;simp only [aB,aM (show (i:Int)<((ae0 l):Int) by omega),pi,az l i hi,ax,bz rfl,pp,ba (show i<1000000000 by omega)]);rw [show (l,l,(0:Int))=(l,l,((0:Nat):Int)) from rfl,this];refine aI ?_;unfold fo;simp only [aB,aJ (show¬((ae0 l):Int)<((ae0 l):Int) by omega),pp]
theorem Oa {k:bJ} (sh:rM k.jp) (hl:(ae0 k.bv)<=1000000):nD k k=ae1 ae2:=by unfold nD;rw [uP sh,ax,pi,Ep _ hl,ax]
theorem Ld (k:bJ):oQ k=ae1 ae2\/(oQ k=ae1 ae5/\rM k.jp/\ae0 k.bv<=70):=by
 unfold oQ
 rcases rN k.jp with e|⟨e,sh⟩
 · rw [e];exact .inl rfl
 rw [e,ax,pp,aB]
 by_cases h:70<ae0 k.bv
 · rw [aM (by omega)];exact .inl rfl
 rw [aJ (by omega)];exact .inr ⟨rfl,sh,by omega⟩
section
variable {P : Int -> Int -> Prop} {S : Int -> Prop}
end
theorem xB {l:List Int} {x:Int} (hl:(ae0 l)<=1000000) (hx:x∈l): ∃k,k<ae0 l/\l[k]! =x/\fq l x=ae1 (k:Int)/\IH l x=ae1 (k:Int):=by
 obtain ⟨k,k1,k2,k3⟩:=least (c:=fun k=>l[k]! =x) (aS.1 hx);have p:=gZ (body:=m7) (fun i=>(l,x,(i:Int))) (ae0 l) (fun i=>l[i]! =x) (fun i=>(i:Int)) (e:= -1) (fun i hi=>by
  unfold m7;simp only [aB,aM (show (i:Int)<((ae0 l):Int) by omega),pi,az l i hi,ax,ba (show i<1000000000 by omega)];refine ⟨fun h=>?_,fun h=>?_⟩
  · rw [fb h];rfl
  · rw [eY h];rfl) (by
  unfold m7;simp only [aB,aJ (show¬((ae0 l):Int)<((ae0 l):Int) by omega),pp])
 exact ⟨k,k1,k2,(Em l x hl).1 k k1 k2 k3,p.1 k k1 k2 k3⟩
theorem tk {l:List Int} {m:Nat} {x:Int} (h:(ae0 l)=m):(l++[x]).take m=l:=by rw [<- h,List.take_left]
section
variable {k : bJ} {f : List Pt} {m n0 : Nat} {x : Int}
end
section
variable {k : bJ} {P : Pt} {f : List Pt} {m : Nat}
end
end Go.Proofs.YtclphlgnjkajbaaGreat
namespace Go.Proofs.YtclphlgnjkajbaaGreat
open Go.Vm
abbrev Nd:=Int×Int×Int
end Go.Proofs.YtclphlgnjkajbaaGreat
namespace Go.Proofs.YtclphlgnjkajbaaGreat
open Go.Vm Classical
section
variable {f : List Pt} {t : Int × Int} {N : List Nd} {r : Int}
end
def o1 (f:List Pt) (t:Int×Int) (e c:Nat) (i:Nat) (lc:Int) (N:List Nd) (E:List Int) (left:Int):=
 (e,c,(i:Int),f,((ae0 f):Int),(i:Int),f,t.1,t.2,(0:Int),lc,N,E,(f[i]!).1,(f[i]!).2.1,(f[i]!).2.2,(f[i]!).1,left,(-1:Int))
section
variable {f : List Pt} {t : Int × Int} {N : List Nd} {r : Int}
end
theorem XT (r r':Int) (a b:List Nd) (hl:(ae0 a)<=1000000):lS ⟨r,a⟩ ⟨r',b⟩=ae1 (ae6 (r=r'/\a=b)):=by
 unfold lS;simp only [aB]
 by_cases h0:r=r'
 case neg=>rw [dK h0,pi,aJ (fun h=>h0 h.1)]
 rw [bz h0,pp]
 by_cases h:(ae0 a)=ae0 b
 case neg=>rw [dK (by omega),pi,aJ (fun q=>h (by rw [q.2]))]
 rw [bz (by omega),pp];have key:=yY (body:=mH) (fun i=>((i:Int),r,a,r',b)) (ae0 a) (fun i=>a[i]! =b[i]!) (r:=ae5) (e:=ae2) (fun i hi=>by
  unfold mH;simp only [aB,aM (show (i:Int)<((ae0 a):Int) by omega),pi,az a i hi,az b i (by omega),ax,ba (show i<1000000000 by omega)];rw [K9]
  by_cases q:a[i]! =b[i]!
  · rw [aM q];exact ⟨fun w=>absurd q w,fun _=>rfl⟩
  · rw [aJ q];exact ⟨fun _=>rfl,fun w=>absurd w q⟩) (by
  unfold mH;simp only [aB,aJ (show¬((ae0 a):Int)<((ae0 a):Int) by omega),pp])
 refine (show _=_ from key).trans ?_
 by_cases q:a=b
 · rw [rc (fun i _=>by rw [q]),aM ⟨h0,q⟩]
 rw [ut (fun w=>q (wJ h w)),aJ (fun w=>q w.2)]
structure Lf (k:ek):Prop where
 c:rM k.jp
 n:(ae0 k.ls.lm)<=1000
theorem Ji {k:ek} (h:Lf k):eU k k=ae1 ae2:=by have hn:=h.n;unfold eU;rw [uP h.c,ax,pi,show lS k.ls k.ls=_ from XT k.ls.lc k.ls.lc k.ls.lm k.ls.lm (by omega),ax,aM ⟨rfl,rfl⟩]
theorem Ah (k:ek):lQ k=ae1 ae2\/(lQ k=ae1 ae5/\Lf k):=by
 unfold lQ wC
 rcases rN k.jp with e|⟨e,sh⟩
 · rw [e];exact .inl rfl
 rw [e,ax,pp,ax,aB]
 by_cases h:70<ae0 k.ls.lm
 · rw [aM (by omega)];exact .inl rfl
 rw [aJ (by omega)];exact .inr ⟨rfl,sh,by omega⟩
structure ad0 (R:bJ) (F:List Pt) (t:Int×Int):Prop where
 ok:jv R
 jT:R.jp.ii.am=F
 ci:R.jp.ci=t
theorem jv.len {k:bJ} (h:jv k):(ae0 k.bv)=(ae0 k.jp.ii.am):=by rw [<- h.perm.length_eq];exact NE ..
theorem jv.bd {k:bJ} (h:jv k):(ae0 k.bv)<=64:=by have:=h.len;have:=h.BQ.jT.1;omega
def Er (c:aG) (to:Int×Int):Prop:=0<ae0 c.aa.bv/\gq (Ev.at c.aa.bv[0]!) to<=0
theorem Ai {c:aG} (ok:aU c) {to:Int×Int} (rt:bm to) (mb:jw to) (le: ¬gq to c.ci<0):oZ c to=ae1 (ae6 (Er c to),0):=by
 unfold oZ;rw [kB ok.fit,rc ok,ax,cw mb,rc rt,ax,bz (by decide),pp,Ba mb ok.iV,rc ⟨rt,ok.jE⟩,ax,aJ le,pp];unfold yR;rw [gO _ ok.fit.ag,rc ok.kO,ax,bz rfl,pp]
 by_cases h:0<ae0 c.aa.bv
 · have ev:=ok.kO.ev 0 h
   have g:=az c.aa.bv 0 h;rw [show ((0:Nat):Int)=0 from rfl] at g;rw [eY (by rw [aB];omega),pp,g,ax,ax,bz rfl,pp,Ba ev.2.1 mb,rc ⟨ev.1,rt⟩,ax]
   congr 2
   by_cases h2:gq (Ev.at c.aa.bv[0]!) to<=0
   · rw [aM (show Er c to from ⟨h,h2⟩),aM h2]
   rw [aJ (fun k:Er c to=>h2 k.2),aJ h2]
 rw [fb (by rw [aB];omega),pi,ax,aJ (fun k:Er c to=>h k.1)]
 rfl
theorem Jj {c:aX} (ok:dR c) {i:Nat} (hi:i<ae0 c.ce):IG c (c.ce[i]!).1=ae1 (i:Int):=by
 have hl:=ok.len;have k:=gZ (body:=rF) (fun j=>((c.ce[i]!).1,(j:Int),c.ay,c.ce)) (ae0 c.ce) (fun j=>(c.ce[j]!).1=(c.ce[i]!).1) (fun j=>(j:Int)) (e:= -1) (fun j hj=>by
  unfold rF;simp only [aB,aM (show (j:Int)<((ae0 c.ce):Int) by omega),pi,az c.ce j hj,ax,ba (show j<1000000000 by omega)];refine ⟨fun h=>?_,fun h=>?_⟩
  · rw [fb h];rfl
  · rw [eY h];rfl) (by
  unfold rF;simp only [aB,aJ (show¬((ae0 c.ce):Int)<((ae0 c.ce):Int) by omega),pp])
 exact k.1 i hi rfl fun j hj e=>by have:=ok.up j i hj hi;omega
abbrev XU (c:aG) (t:Int×Int):aG:=⟨t,c.ii,c.af,c.aa,c.io⟩
theorem Jk {c:aG} (ok:aU c) {to:Int×Int} (rt:bm to) (mb:jw to) (le: ¬gq to c.ci<0) (io:Er c to):
 ∃(x:Int×Int) (c1:aG),ib c to=ae1 (c1,c.aa.bv[0]!,x,0)/\z4 c=ae1 (c1,c.aa.bv[0]!,x)/\aU c1/\c1.ii=c.ii/\iY c.ii.am x/\jF c1=jF c+1/\c1.ci=Ev.at c.aa.bv[0]!:=by
 obtain ⟨i,c',hi,num,r1,r2,tB,hf,hc,_⟩:=y6 ok io.1;have g:=az c.aa.bv 0 io.1;rw [show ((0:Nat):Int)=0 from rfl] at g;have EW:(ae0 c'.af.ce)=ae0 c.af.ce-1:=by rw [hc];exact List.length_eraseIdx_of_lt hi
 have Yu:c'.af.ay=c.af.ay:=by rw [hc];rfl
 refine ⟨(c.af.ce[i]!).2,XU c' (Ev.at c.aa.bv[0]!),?_,?_,tB,hf,ok.known i hi,?_,rfl⟩
 · unfold ib
   rw [Ai ok rt mb le,ax,fb rfl,pi,aM io,v4,pp,bz rfl,pp,g,ax,r1,ax,bz rfl,pp]
 · unfold z4
   rw [g,ax,show (c.aa.bv[0]!).2.2.1=(c.af.ce[i]!).1 from num.symm,Jj ok.oC hi,ax,az c.af.ce i hi,ax,num,r2,ax]
 unfold jF
 show c'.af.ay- ((ae0 c'.af.ce):Int)=_;rw [EW,Yu];omega
theorem Ra {c:aG} (ok:aU c) {to:Int×Int} (rt:bm to) (mb:jw to) (le: ¬gq to c.ci<0) (io: ¬Er c to):ib c to=ae1 (cU,(0,0,0,0,0),(0,0),6):=by unfold ib;rw [Ai ok rt mb le,ax,fb rfl,pi,aJ io];rfl
theorem XV {c:aG} (ok:aU c) {to:Int×Int} (rt:bm to) (mb:jw to) (le: ¬gq to c.ci<0) (io: ¬Er c to):uC c to=ae1 (XU c to,0):=by unfold uC;rw [Ai ok rt mb le,ax,fb rfl,pi,aJ io,pp,bz rfl,pp,ig ok,ax]
theorem Ob {c:aG} (ok:aU c) (l:List Int) {to:Int×Int} (rt:bm to) (mb:jw to) (le: ¬gq to c.ci<0) (io: ¬Er c to):eB ⟨c,l⟩ to=ae1 (⟨cU,[]⟩,(0,0),6):=by unfold eB;rw [Ra ok rt mb le io,ax];rfl
def aP (c:aG) (l:List Int) (to:Int×Int) (out:List (Int×Int)):=
 (c.ci.1,c.ci.2,c.ii.am,c.af.ay,c.af.ce,c.aa.ae.au,c.aa.ae.be,c.aa.ae.bi,c.aa.bv,c.aa.aj,c.io,l,to.1,to.2,(0:Int),(0:Int),(0:Int),out)
theorem Cs {c:aG} (ok:aU c): -200<=jF c/\jF c<=1000000:=by have h1:=ok.oC.len;have h2:=ok.oC.n0;have h3:=ok.oC.n1;unfold jF;omega
theorem FL {c:aG} (ok:aU c) {to:Int×Int} (rt:bm to) (io: ¬Er c to) {y:ng} (hy:y∈c.af.ce) (is:(bk c.ii.am y.2 c.ci).2=ae2):
 to.1*(bk c.ii.am y.2 c.ci).1.2<(bk c.ii.am y.2 c.ci).1.1*to.2:=by
 obtain ⟨d,hd,_,ev⟩:=ok.yX.has _ hy is;obtain ⟨v,hv,he⟩:=aS.1 ev;have tl:=FK ok.kO v hv;have h0:0<(ae0 c.aa.bv):=by omega
 have e0:=(ok.kO.ev 0 h0).1.1;have ev':=(ok.kO.ev v hv).1.1;rw [he] at tl ev';have n1: ¬gq (bk c.ii.am y.2 c.ci).1 (Ev.at c.aa.bv[0]!)<0:=fun q=>tl (.inl q)
 rw [uI] at n1;have n2: ¬gq (Ev.at c.aa.bv[0]!) to<=0:=fun q=>io ⟨h0,q⟩
 have n3:to.1*(Ev.at c.aa.bv[0]!).2<(Ev.at c.aa.bv[0]!).1*to.2:=by unfold gq at n2;rcases dH ((Ev.at c.aa.bv[0]!).1*to.2) (to.1*(Ev.at c.aa.bv[0]!).2) with ⟨a,b⟩|⟨a,b⟩|⟨a,b⟩<;>omega
 exact ya rt.1 e0 ev' n3 (Int.not_lt.1 n1)
theorem Rb {c:aG} (ok:aU c) {to:Int×Int} (rt:bm to) (mb:jw to) (le: ¬gq to c.ci<0) (io: ¬Er c to):aU (XU c to):=by
 have pt:=fun (x:Int×Int) (hb:iY c.ii.am x)=>And.intro (dL ok.jT hb.2).1 (dL ok.jT hb.1).1
 refine ⟨rt,mb,ok.jT,ok.oC,ok.kO,ok.Ei,ok.hd,ok.known,?_⟩;refine aV.time (t:=c.ci) (fun y hy=>?_) ok.yX;obtain ⟨j,hj,rfl⟩:=aS.1 hy;have hb:=ok.known j hj;refine yZ (pt _ hb).1 (pt _ hb).2 ok.jE rt (by rw [uI] at le;exact Int.not_lt.1 le) (fun is=>?_);exact adV (FL ok rt io hy is)
theorem Rc {h l:Pt} {t t':Int×Int} (hh:ff h) (hl:ff l) (r:bm t) (r':bm t') (le:t.1*t'.2<=t'.1*t.2) (nf:(iT h l t).2=ae2->t'.1*(iT h l t).1.2<(iT h l t).1.1*t'.2): ¬leads l h t':=by
 have mv:=yZ hh hl r r' le (fun is=>adV (nf is));intro hn;have e:iT h l t'=(t',ae2):=by unfold iT;rw [rc hn]
 rw [e] at mv;have:=nf (by rw [<- mv]);rw [<- mv] at this;dsimp only at this;omega
theorem Jl {c:aG} (ok:aU c) {to:Int×Int} (rt:bm to) (mb:jw to) (le: ¬gq to c.ci<0) (io:Er c to) {c':aG} {x:Int×Int} (hd:ia c (Ev.num c.aa.bv[0]!)=ae1 (c',x,0)):
 ib c to=ae1 (XU c' (Ev.at c.aa.bv[0]!),c.aa.bv[0]!,x,0):=by
 have g:=az c.aa.bv 0 io.1;rw [show ((0:Nat):Int)=0 from rfl] at g;unfold ib;rw [Ai ok rt mb le,ax,fb rfl,pi,aM io,v4,pp,bz rfl,pp,g,ax,hd,ax,bz rfl,pp]
theorem FM {α:Type} [BEq α] [LawfulBEq α]: ∀{a b:List α},a.Nodup->(∀x∈a,x∈b)->ae0 a<=ae0 b
 | [],_,_,_=>Nat.zero_le _
 |x::a,b,hd,h=>by rw [List.nodup_cons] at hd;have hx:=h x If;have:=FM (a:=a) (b:=b.erase x) hd.2 (fun y hy=>by rw [List.mem_erase_of_ne (fun e=>hd.1 (by rw [<- e];exact hy))];exact h y (EQ _ hy));rw [List.length_erase_of_mem hx] at this;have:=List.length_pos_of_mem hx;rw [acl];omega
theorem Lg {α:Type} [BEq α] [LawfulBEq α] {a b:List α} (ha:a.Nodup) (hb:b.Nodup) (h1: ∀x∈a,x∈b) (h2: ∀x∈b,x∈a):a.Perm b:=nY ha h1 (FM hb h2)
structure Jm (c:aG) (l:List Int):Prop where
 ok:aU c
 pm:(vg c.ii.am).Perm l
 ct:(c.af.ce.map fun x=>x.2).Perm (cC l)
theorem Jm.bd {c:aG} {l:List Int} (h:Jm c l):(ae0 l)<=64:=by
 have:=h.ok.bd;have:(ae0 l)=(ae0 c.ii.am):=by rw [<- h.pm.length_eq];exact NE ..
 omega
noncomputable abbrev Lh (to:Int×Int) (c:aG) (l:List Int) (out:List (Int×Int)):=aE iN (aP c l to out)
abbrev ahH:bJ×List (Int×Int)×Int:=(⟨cU,[]⟩,[],18)
theorem XW {c c2:aG} {l l2:List Int} {to x:Int×Int} {out:List (Int×Int)} (ev:eB ⟨c,l⟩ to=ae1 (⟨c2,l2⟩,x,0)) (ol:(ae0 out)+1<=1048576):Lh to c l out=Lh to c2 l2 (out++[x]):=by
 have lE:(aG.mk (c.ci.1,c.ci.2) (Field.mk c.ii.am) (aX.mk c.af.ay c.af.ce) (aF.mk (aQ.mk c.aa.ae.au c.aa.ae.be c.aa.ae.bi) c.aa.bv c.aa.aj) c.io)=c:=rfl;have ap:bu out [x]=ae1 (out++[x]):=eZ (by rw [Do];omega);refine aW ?_;unfold iN aP;simp only [lE,show ((to.1,to.2):Int×Int)=to from rfl,ev,ax,show ((0:Int)==6)=ae5 from rfl,pp,show ((0:Int) !=0)=ae5 from rfl,ap]
theorem Jn {c:aG} {l l2:List Int} {to x:Int×Int} (out:List (Int×Int)) (ev:eB ⟨c,l⟩ to=ae1 (⟨cU,l2⟩,x,18)):Lh to c l out=ae1 ahH:=by have lE:(aG.mk (c.ci.1,c.ci.2) (Field.mk c.ii.am) (aX.mk c.af.ay c.af.ce) (aF.mk (aQ.mk c.aa.ae.au c.aa.ae.be c.aa.ae.bi) c.aa.bv c.aa.aj) c.io)=c:=rfl;refine aI ?_;unfold iN aP;simp only [lE,show ((to.1,to.2):Int×Int)=to from rfl,ev,ax,show ((18:Int)==6)=ae5 from rfl,pp,show ((18:Int) !=0)=ae2 from rfl,pi]
theorem step_end {c:aG} (ok:aU c) {l:List Int} (hl:(ae0 l)<=1000) {to:Int×Int} (rt:bm to) (mb:jw to) (le: ¬gq to c.ci<0) (io: ¬Er c to) (out:List (Int×Int)):Lh to c l out=ae1 (⟨XU c to,l⟩,out,0):=by
 have lE:(aG.mk (c.ci.1,c.ci.2) (Field.mk c.ii.am) (aX.mk c.af.ay c.af.ce) (aF.mk (aQ.mk c.aa.ae.au c.aa.ae.be c.aa.ae.bi) c.aa.bv c.aa.aj) c.io)=c:=rfl;refine aI ?_;unfold iN aP;simp only [lE,show ((to.1,to.2):Int×Int)=to from rfl,Ob ok l rt mb le io,ax,show ((6:Int)==6)=ae2 from rfl,pi,XV ok rt mb le io,bo (show (ae0 l)<=1048576 by omega)]
theorem MJ {a b:Int×Int}: ¬gq a b<0↔b.1*a.2<=a.1*b.2:=by rw [uI];omega
theorem XX {a b:Int×Int}:gq a b<=0↔a.1*b.2<=b.1*a.2:=by unfold gq;rcases dH (a.1*b.2) (b.1*a.2) with ⟨x,y⟩|⟨x,y⟩|⟨x,y⟩<;>omega
theorem G2 {p q:Pt} (t:Int×Int) (h:p.1≠q.1) (hn: ¬leads p q t):leads q p t:=by unfold leads at*;rw [Cr,Int.sub_mul,Int.sub_mul] at*;generalize p.2.1*t.2=a at*;generalize p.2.2*t.1=b at*;generalize q.2.1*t.2=c at*;generalize q.2.2*t.1=d at*;omega
section
variable {s t : Int × Int}
theorem BT {k:bJ} (n:B7 k.jp) (sh:rM k.jp) (hl:(ae0 k.bv)<=1000) (ok:jv k) {to:Int×Int} (rt:bm to) (mb:jw to) (le: ¬gq to k.jp.ci<0):fA k to=Lh to k.jp k.bv []:=by have c1:=qM ⟨n.ci,⟨sh.s3,sh.h,sh.w,n.D5⟩,sh.d⟩ hl;rw [rc ok] at c1;unfold fA;rw [c1,ax,bz rfl,pp,cw mb,rc rt,ax,bz rfl,pp,Ba mb n.ci,rc ⟨rt,ok.BQ.jE⟩,ax,aJ le];rfl
theorem XY {c:aG} {l:List Int} (h:Jm c l) (rs:bm s) (s64:jw s) (le: ¬gq s c.ci<0) (io: ¬Er c s):jv ⟨XU c s,l⟩:=by
 have ok:=h.ok;have nd:=h.pm.nodup_iff.1 (qh ok.jT.2.2);refine ⟨Rb ok rs s64 le io,h.pm,h.ct,fun e he=>?_⟩;obtain ⟨j,hj,hx⟩:=g9.2 (h.ct.mem_iff.2 he);have hb:=ok.known j hj;rw [hx] at hb;have p2:=dL ok.jT hb.2;have p1:=dL ok.jT hb.1;have nl: ¬leads (bS c.ii.am e.1) (bS c.ii.am e.2) s:=by
  refine Rc p2.1 p1.1 ok.jE rs (by rw [MJ] at le;exact le) fun is=>?_
  have:=FL ok rs io (bj hj);rw [hx] at this;exact this is
 exact G2 s (by rw [p1.2,p2.2];exact Jg nd he) nl
end
noncomputable def pos (l:List Int) (x:Int):Nat:=if h: ∃k,k<ae0 l/\l[k]! =x then h.choose else 0
section
variable (f : List Pt)
end
section
variable {f : List Pt}
end
theorem Rd (p q:Pt) (t t':Int×Int):xH p q t'*t.2=xH p q t*t'.2+(p.2.2-q.2.2)*(t'.1*t.2-t.1*t'.2):=by unfold xH;generalize p.2.1-q.2.1=a;generalize p.2.2-q.2.2=b;simp only [Int.mul_add,Int.mul_sub,Int.mul_assoc,adZ,Int.mul_left_comm];omega
theorem G3 (p q:Pt) (t:Int×Int):xH q p t= -xH p q t:=by unfold xH;rw [show q.2.1-p.2.1= -(p.2.1-q.2.1) by omega,show q.2.2-p.2.2= -(p.2.2-q.2.2) by omega,adM,adM];omega
theorem Oc {a b:Int} (hb:0<b) (h:0<=a*b):0<=a:=ww fun hn=>by have:=Int.mul_neg_of_neg_of_pos (show a<0 by omega) hb;omega
theorem Oe {p q:Pt} {t t':Int×Int} (d:1<=t.2) (d':1<=t'.2) (le:t.1*t'.2<=t'.1*t.2) (hb:q.2.2<=p.2.2) (h:0<=xH p q t):0<=xH p q t':=by refine Oc (show 0<t.2 by omega) ?_;rw [Rd p q t t'];have a:=adR h (show 0<=t'.2 by omega);have b:=adR (show 0<=p.2.2-q.2.2 by omega) (show 0<=t'.1*t.2-t.1*t'.2 by omega);omega
structure EvP (f:List Pt) (x:Int×Int) (t:Int×Int):Prop where
 both:iY f x
 zero:xH (bS f x.2) (bS f x.1) t=0
 ahI:(bS f x.2).2.2<(bS f x.1).2.2
theorem EvP.behind {f:List Pt} {x t to:Int×Int} (h:EvP f x t) (d:1<=t.2) (d':1<=to.2) (le:t.1*to.2<=to.1*t.2):leads (bS f x.1) (bS f x.2) to:=by
 have z:=h.zero;have s:=h.ahI;have n:=G3 (bS f x.2) (bS f x.1) t;have g:=Oe (p:=bS f x.1) (q:=bS f x.2) d d' le (by omega) (by omega);unfold leads
 by_cases e:xH (bS f x.1) (bS f x.2) to=0
 · exact .inr ⟨e,.inl s⟩
 exact .inl (by omega)
theorem EvP.sS {f:List Pt} {x t ci:Int×Int} (h:EvP f x t) (d:1<=t.2) (d':1<=ci.2) (ld:leads (bS f x.2) (bS f x.1) ci):ci.1*t.2<t.1*ci.2:=by
 refine ww fun hn=>?_
 have b:=h.behind d d' (by omega);have n:=G3 (bS f x.2) (bS f x.1) ci;unfold leads at b ld;have s:=h.ahI;omega
section
variable {α : Type} [Inhabited α] {P : α -> α -> Prop} {S : α -> Prop}
end
section
variable {f : List Pt} {t : Int × Int}
end
theorem FN {c:aG} {l:List Int} (h:Jm c l) {to:Int×Int} (rt:bm to) (mb:jw to) (le: ¬gq to c.ci<0) (io:Er c to):
 (∃x c2 l2,eB ⟨c,l⟩ to=ae1 (⟨c2,l2⟩,x,0)/\Jm c2 l2/\c2.ci=Ev.at c.aa.bv[0]!/\jF c+1<=jF c2/\ ¬gq to c2.ci<0/\c2.ii.am=c.ii.am)\/(∃x l2,eB ⟨c,l⟩ to=ae1 (⟨cU,l2⟩,x,18)):=by
 have ok:=h.ok;have pm:=h.pm;obtain ⟨x,c1,f1,_,tB,hf,hb,hr,hn⟩:=Jk ok rt mb le io;have bd:=h.bd;obtain ⟨i,i1,i2,i3,_⟩:=xB (l:=l) (by omega) (pm.mem_iff.1 (oD.2 hb.1));obtain ⟨j,j1,j2,j3,_⟩:=xB (l:=l) (by omega) (pm.mem_iff.1 (oD.2 hb.2));have pm':(vg c.ii.am).Perm (iW l i j):=pm.trans (tu i1 j1).symm;have sl:(iW l i j).length=(ae0 l):=(tu i1 j1).length_eq;have pG:=tB.jT;obtain ⟨r,r1,_,r3⟩:=MH tB pG (es:=cC (iW l i j)) (Eo pG (by rw [hf];exact pm'));have ev:eB ⟨c,l⟩ to=ae1 (⟨r.1,iW l i j⟩,x,r.2):=by
  unfold eB;rw [f1,ax,bz rfl,pp,bo (show (ae0 l)<=1048576 by omega),ax,i3,ax,j3,ax,az l j j1,ax,az l i i1,ax,ax];rw [k9,az _ j (by rw [PP];exact j1),ax,k9];show (kx (iW l i j)).bind _=_;rw [Ag _ (by omega),ax];show (gi c1 ⟨c1.ii.am⟩ (cC (iW l i j))).bind _=_;rw [r1,ax];rfl
 rcases r3 with ⟨q,k⟩|e
 · left
   rw [q] at ev;have nd:=pm'.nodup_iff.1 (qh ok.jT.2.2);have sub: ∀z∈(r.1.af.ce.map fun x=>x.2),z∈cC (iW l i j):=fun z hz=>by obtain ⟨y,hy,rfl⟩:=v6.1 hz;exact k.sub y hy
   have has: ∀z∈cC (iW l i j),z∈(r.1.af.ce.map fun x=>x.2):=fun z hz=>g9.1 (k.has z hz)
   have cn:=BS k.ok.oC;refine ⟨x,r.1,iW l i j,ev,⟨k.ok,by rw [k.jT,hf];exact pm',Lg cn (rO nd) sub has⟩,by rw [k.ci,hn],by have:=k.room;omega,fun hx=>?_,by rw [k.jT,hf]⟩;have h2:=io.2;rw [k.ci,hn,uI] at hx;have: ¬0<gq (Ev.at c.aa.bv[0]!) to:=by omega
   unfold gq at this;rcases dH ((Ev.at c.aa.bv[0]!).1*to.2) (to.1*(Ev.at c.aa.bv[0]!).2) with ⟨a,b⟩|⟨a,b⟩|⟨a,b⟩<;>omega
 right
 rw [e] at ev;exact ⟨x,_,ev⟩
theorem MK {l:List Int} {i j:Nat} (hi:i<ae0 l) (hj:j<ae0 l) (k:Nat):(iW l i j)[k]! =if k=j then l[i]! else if k=i then l[j]! else l[k]!:=by
 unfold iW;rw [bg,PP,bg]
 by_cases a:k=j
 · rw [rc ⟨a,hj⟩,rc a]
 rw [ut (fun h=>a h.1),ut a]
 by_cases b:k=i
 · rw [rc ⟨b,hi⟩,rc b]
 rw [ut (fun h=>b h.1),ut b]
noncomputable def xJ (L:List ng) (es:List (Int×Int)):List (Int×Int):=es.filter fun e=>decide (¬lD L e)
theorem Es {L:List ng} {es:List (Int×Int)} {e:Int×Int} (h:lD L e):xJ L (e::es)=xJ L es:=by unfold xJ;rw [adc,ut (by rw [decide_eq_true_iff];exact fun q=>q h)]
theorem Et {L:List ng} {es:List (Int×Int)} {e:Int×Int} (h: ¬lD L e):xJ L (e::es)=e::xJ L es:=by unfold xJ;rw [adc,rc (by rw [decide_eq_true_iff];exact h)]
theorem Jo {L:List ng} {n:Int} {e:Int×Int}: ∀{es:List (Int×Int)},e∉es->xJ (L++[(n,e)]) es=xJ L es
 | [],_=>rfl
 |g::es,h=>by
  have ih:=Jo (L:=L) (n:=n) (es:=es) (fun q=>h (EQ _ q));have hg:lD (L++[(n,e)]) g↔lD L g:=by
   constructor
   · intro q
     rcases List.mem_append.1 ((show∃x∈L++[(n,e)],x.2=g from by obtain ⟨x,hx,q⟩:=v6.1 (g9.1 q);exact ⟨x,hx,q⟩).choose_spec.1) with a|a
     · have:=(show∃x∈L++[(n,e)],x.2=g from by obtain ⟨x,hx,q⟩:=v6.1 (g9.1 q);exact ⟨x,hx,q⟩).choose_spec.2
       exact g9.2 (v6.2 ⟨_,a,this⟩)
     have:=(show∃x∈L++[(n,e)],x.2=g from by obtain ⟨x,hx,q⟩:=v6.1 (g9.1 q);exact ⟨x,hx,q⟩).choose_spec.2
     rw [List.mem_singleton.1 a] at this;exact absurd (by rw [<- this];exact If) h
   rintro ⟨j,hj,q⟩
   exact ⟨j,by rw [IR];omega,by rw [gj hj];exact q⟩
  by_cases c:lD L g
  · rw [Es c,Es (hg.2 c),ih]
  rw [Et c,Et (fun q=>c (hg.1 q)),ih]
theorem Of {f:List Pt} {es:List (Int×Int)} (BP:rL f es) (nd:es.Nodup):
 ∀(d i:Nat) (c:aG),ae0 es-i<=d->i<=ae0 es->aU c->c.ii.am=f->
  ∃r:aG×Int,aE bL (eP es i c)=ae1 (.done r)/\(r.2=0->r.1.af.ay=c.af.ay+((xJ c.af.ce (es.drop i)).length:Int)):=by
 have el:=BP.len;have fin: ∀c:aG,aU c-> ∃r:aG×Int,aE bL (eP es (ae0 es) c)=ae1 (.done r)/\(r.2=0->r.1.af.ay=c.af.ay+((xJ c.af.ce (es.drop (ae0 es))).length:Int)):=by intro c ok;refine ⟨(c,0),aI ?_,fun _=>by rw [List.drop_length];show c.af.ay=c.af.ay+0;omega⟩;unfold bL eP;simp only [aJ (show¬((ae0 es):Int)<((ae0 es):Int) by omega),pp]
 intro d
 induction d with
 |zero=>
  intro i c hd hi ok hf;have:i=(ae0 es):=by omega
  subst this;exact fin c ok
 |succ d ih=>
  intro i c hd hi ok hf
  by_cases he:i=ae0 es
  · subst he
    exact fin c ok
  have bd:=ok.bd;have pE:i<(ae0 es):=by omega
  have e1:ae6 ((i:Int)<((ae0 es):Int))=ae2:=aM (by omega);have sc:=ba (show i<1000000000 by omega);have cg:=az es i pE;have dr:=lZ pE;have lE:(aG.mk (c.ci.1,c.ci.2) (Field.mk c.ii.am) (aX.mk c.af.ay c.af.ce) (aF.mk (aQ.mk c.aa.ae.au c.aa.ae.be c.aa.ae.bi) c.aa.bv c.aa.aj) c.io)=c:=rfl;have hc:=Ef c.af.ce es[i]! (by omega)
  by_cases p9:lD c.af.ce es[i]!
  · have s1:bL (eP es i c)=ae1 (.next (eP es (i+1) c)):=by
     unfold bL eP;simp only [e1,pi,cg,ax,qg,hc,aM p9,sc]
    rw [aW s1,dr,Es p9];exact ih (i+1) c (by omega) (by omega) ok hf
  have hb:iY c.ii.am es[i]!:=by rw [hf];exact BP.kn _ (bj pE)
  rcases MG ok (BP.cv _ (bj pE)) hb p9 with ⟨r1,r2,full⟩|⟨c',r1,r2,r3,r4,r5,r6,r7⟩
  · refine ⟨(cU,18),aI ?_,fun h=>by cases h⟩
    unfold bL eP;simp only [e1,pi,cg,ax,qg,hc,aJ p9,pp,lE,r1,show ((18:Int) !=0)=ae2 from rfl]
  have s1:bL (eP es i c)=ae1 (.next (eP es (i+1) c')):=by
   unfold bL eP;simp only [e1,pi,cg,ax,qg,hc,aJ p9,pp,lE,r1,show ((0:Int) !=0)=ae5 from rfl,sc]
  obtain ⟨r,q1,q2⟩:=ih (i+1) c' (by omega) (by omega) r3 (by rw [r4,hf]);rw [aW s1];refine ⟨r,q1,fun h=>?_⟩;have hn:es[i]!∉es.drop (i+1):=fun hm=>by obtain ⟨j,hj,e⟩:=aS.1 hm;rw [List.length_drop] at hj;rw [nS] at e;exact db.1 nd i (i+1+j) (by omega) (by omega) e.symm
  rw [q2 h,dr,Et p9,r6];show (c.af.ay+1)+((xJ (c.af.ce++[(c.af.ay,es[i]!)]) (es.drop (i+1))).length:Int)=_;rw [Jo hn,acl];omega
theorem Og {c0:aG} (ok0:aU c0) {f:List Pt} {es:List (Int×Int)} (BP:rL f es):
 ∀(d i:Nat) (c:aG),ae0 c0.af.ce-i<=d->i<=ae0 c0.af.ce->aU c->(∀x∈c0.af.ce.drop i,x∈c.af.ce)->
  ∃c':aG,aE bG (kP c0 f es i c)=aE bG (kP c0 f es (ae0 c0.af.ce) c')/\aU c'/\c'.ii=c.ii/\c'.af.ay=c.af.ay/\(∀x∈c.af.ce,x.2∈es->x∈c'.af.ce):=by
 have bd:=ok0.bd;intro d
 induction d with
 |zero=>
  intro i c hd hi ok h1;have:i=(ae0 c0.af.ce):=by omega
  subst this;exact ⟨c,rfl,ok,rfl,rfl,fun x hx _=>hx⟩
 |succ d ih=>
  intro i c hd hi ok h1
  by_cases he:i=ae0 c0.af.ce
  · subst he
    exact ⟨c,rfl,ok,rfl,rfl,fun x hx _=>hx⟩
  have pE:i<(ae0 c0.af.ce):=by omega
  have e1:ae6 ((i:Int)<((ae0 c0.af.ce):Int))=ae2:=aM (by omega);have sc:=ba (show i<1000000000 by omega);have cg:=az c0.af.ce i pE;have dr:=lZ pE;have lE:(aG.mk (c.ci.1,c.ci.2) (Field.mk c.ii.am) (aX.mk c.af.ay c.af.ce) (aF.mk (aQ.mk c.aa.ae.au c.aa.ae.be c.aa.ae.bi) c.aa.bv c.aa.aj) c.io)=c:=rfl
  by_cases p9:(c0.af.ce[i]!).2∈es
  · have s1:bG (kP c0 f es i c)=ae1 (.next (kP c0 f es (i+1) c)):=by
     unfold bG kP;simp only [e1,pi,cg,ax,lb _ _ BP.len,aM p9,v4,pp,sc]
    rw [aW s1];exact ih (i+1) c (by omega) (by omega) ok (fun x hx=>h1 x (by rw [dr];exact EQ _ hx))
  have hm:=h1 (c0.af.ce[i]!) (by rw [dr];exact If)
  obtain ⟨m,Ou,JT⟩:=aS.1 hm;obtain ⟨c',r1,r2,r3,r4,r5,r6⟩:=K8 ok Ou;have rt:=vf ok Ou r1;rw [JT] at rt;have s1:bG (kP c0 f es i c)=ae1 (.next (kP c0 f es (i+1) c')):=by unfold bG kP;simp only [e1,pi,cg,ax,lb _ _ BP.len,aJ p9,Bool.not_false,sc,lE,rt]
  rw [aW s1];have cl:c'.af.ce=c.af.ce.eraseIdx m:=by rw [r6];rfl
  obtain ⟨d',q1,q2,q3,q4,q5⟩:=ih (i+1) c' (by omega) (by omega) r3 (fun x hx=>by rw [cl];refine xA (h1 x (by rw [dr];exact EQ _ hx)) ?_;rw [JT];exact uO ok0 hx pE);refine ⟨d',q1,q2,q3.trans r4,q4.trans (by rw [r6];rfl),fun x hx hxe=>q5 x ?_ hxe⟩;rw [cl];refine xA hx ?_;intro e;have:x=c.af.ce[m]!:=Up.inj ok.nX hx (bj Ou) e;rw [this,JT] at hxe;exact p9 hxe
theorem Li {c:aG} (ok:aU c) {es:List (Int×Int)} (BP:rL c.ii.am es) (nd:es.Nodup) {r:aG} (h:gi c ⟨c.ii.am⟩ es=ae1 (r,0)):
 r.af.ay<=c.af.ay+((xJ c.af.ce es).length:Int):=by
 have f64:=ok.jT.1;obtain ⟨c',g1,g3,g4,g5,g6⟩:=Og ok BP (ae0 c.af.ce) 0 c (by omega) (by omega) ok (fun x hx=>by rwa [adT] at hx);have La:gi c ⟨c.ii.am⟩ es=aE bG (kP c c.ii.am es 0 c):=rfl;obtain ⟨q,i1,i2⟩:=Of BP nd (ae0 es) 0 c' (by omega) (by omega) g3 (by rw [g4]);have e:gi c ⟨c.ii.am⟩ es=ae1 q:=by
  rw [La,g1];refine aI ?_;unfold bG kP;have ge:c'.ii.am=c.ii.am:=by rw [g4]
  simp only [aJ (show¬((ae0 c.af.ce):Int)<((ae0 c.af.ce):Int) by omega),pp,Af c'.ii.am c.ii.am (by rw [ge];omega),aM ge,ax,v4];exact i1
 rw [h] at e;injection e with e;subst e;have n:=i2 rfl;rw [adT] at n;rw [show r.af.ay=_ from n,g5];have sub:(xJ c'.af.ce es).length<=(xJ c.af.ce es).length:=by
  refine List.Nodup.length_le_of_subset (nd.filter _) fun x hx=>?_
  obtain ⟨a,b⟩:=UV.1 hx;rw [decide_eq_true_iff] at b;have nc: ¬lD c.af.ce x:=fun hc=>by obtain ⟨y,hy,e⟩:=v6.1 (g9.1 hc);exact b (g9.2 (v6.2 ⟨y,g6 y hy (by rw [e];exact a),e⟩))
  exact UV.2 ⟨a,by rw [decide_eq_true_iff];exact nc⟩
 omega
theorem Lj {c:aG} {l:List Int} (h:Jm c l) {to:Int×Int} (rt:bm to) (mb:jw to) (le: ¬gq to c.ci<0) (io:Er c to) {x:Int×Int} {k:bJ} (e:eB ⟨c,l⟩ to=ae1 (k,x,0)):
 k.jp.af.ay<=c.af.ay+5:=by
 have ok:=h.ok;have pm:=h.pm;obtain ⟨i0,c',Yy,num,r1,_,tB,hf,hc,_⟩:=y6 ok io.1;have f1:=Jl ok rt mb le io r1;obtain ⟨c1,ze⟩: ∃c1,c1=XU c' (Ev.at c.aa.bv[0]!):=⟨_,rfl⟩;have tB:aU c1:=by rw [ze];exact tB
 have n1:c1.af.ay=c.af.ay:=by rw [ze];show c'.af.ay=_;rw [hc];rfl
 have l1:c1.af.ce=c.af.ce.eraseIdx i0:=by rw [ze];show c'.af.ce=_;rw [hc];rfl
 have hf1:c1.ii=c.ii:=by rw [ze];exact hf
 rw [<- ze] at f1;obtain ⟨x0,Ez⟩: ∃x0,x0=(c.af.ce[i0]!).2:=⟨_,rfl⟩;rw [<- Ez] at f1;have xm:x0∈c.af.ce.map fun x=>x.2:=v6.2 ⟨_,bj Yy,Ez.symm⟩
 have xe:x0∈cC l:=h.ct.mem_iff.1 xm;obtain ⟨a,ha,ea⟩:=aS.1 xe;rw [ju] at ha;rw [o7 l ha] at ea;have bd:=h.bd;have nd:=pm.nodup_iff.1 (qh ok.jT.2.2);have hb:=ok.known i0 Yy;rw [<- Ez] at hb;obtain ⟨i,i1,i2,i3,_⟩:=xB (l:=l) (by omega) (pm.mem_iff.1 (oD.2 hb.1));obtain ⟨j,j1,j2,j3,_⟩:=xB (l:=l) (by omega) (pm.mem_iff.1 (oD.2 hb.2));have hi:i=a+1:=by
  have:l[i]! =l[a+1]!:=by rw [i2,<- ea]
  rcases M2 i (a+1) with q|q|q
  · exact absurd this (db.1 nd _ _ q (by omega))
  · exact q
  exact absurd this.symm (db.1 nd _ _ q i1)
 have hj:j=a / 2:=by
  have:l[j]! =l[a / 2]!:=by rw [j2,<- ea]
  rcases M2 j (a / 2) with q|q|q
  · exact absurd this (db.1 nd _ _ q (by omega))
  · exact q
  exact absurd this.symm (db.1 nd _ _ q j1)
 have sl:(iW l i j).length=(ae0 l):=(tu i1 j1).length_eq;have nd2:(iW l i j).Nodup:=(tu i1 j1).nodup_iff.2 nd;have BP:rL c1.ii.am (cC (iW l i j)):=Eo tB.jT (by rw [hf1];exact pm.trans (tu i1 j1).symm);obtain ⟨r,r1,_,_⟩:=MH tB tB.jT (es:=cC (iW l i j)) BP;have v:eB ⟨c,l⟩ to=ae1 (⟨r.1,iW l i j⟩,x0,r.2):=by
  unfold eB;rw [f1,ax,bz rfl,pp,bo (show (ae0 l)<=1048576 by omega),ax,i3,ax,j3,ax,az l j j1,ax,az l i i1,ax,ax];rw [k9,az _ j (by rw [PP];exact j1),ax,k9];show (kx (iW l i j)).bind _=_;rw [Ag _ (by omega),ax];show (gi c1 ⟨c1.ii.am⟩ (cC (iW l i j))).bind _=_;rw [r1,ax];rfl
 rw [e] at v;injection v with v;injection v with v1 v2;injection v2 with _ v2;subst v1;have r1:gi c1 ⟨c1.ii.am⟩ (cC (iW l i j))=ae1 (r.1,0):=by rw [r1,v2]
 have made:=Li tB BP (rO nd2) r1;have XZ:(xJ c1.af.ce (cC (iW l i j))).length<=([j-1,2*i,2*i+1,2*j,2*j+1].map fun b=>((iW l i j)[b+1]!,(iW l i j)[b / 2]!)).length:=by
  refine List.Nodup.length_le_of_subset ((rO nd2).filter _) fun y hy=>?_
  obtain ⟨ym,yn⟩:=UV.1 hy;rw [decide_eq_true_iff] at yn;obtain ⟨b,wW,eb⟩:=aS.1 ym;rw [ju,sl] at wW;rw [o7 _ (by omega)] at eb;refine ww fun hn=>yn ?_
  have far: ∀d∈[j-1,2*i,2*i+1,2*j,2*j+1],b≠d:=fun d hd e=>hn (v6.2 ⟨d,hd,by rw [<- e];exact eb⟩)
  have d1:=far _ (If);have d2:=far (2*i) (by simp);have d3:=far (2*i+1) (by simp);have d4:=far (2*j) (by simp);have d5:=far (2*j+1) (by simp);have s1:(iW l i j)[b+1]! =l[b+1]!:=by rw [MK i1 j1,ut (by omega),ut (by omega)]
  have s2:(iW l i j)[b / 2]! =l[b / 2]!:=by rw [MK i1 j1,ut (by omega),ut (by omega)]
  rw [s1,s2] at eb;have yl:y∈cC l:=by rw [<- eb,<- o7 l wW];exact bj (by rw [ju];exact wW)
  obtain ⟨z,hz,ez⟩:=v6.1 (h.ct.mem_iff.2 yl);have ez:z.2=y:=ez;refine g9.2 (v6.2 ⟨z,?_,ez⟩);rw [l1];refine xA hz fun q=>?_
  have zq:z=c.af.ce[i0]!:=Up.inj ok.nX hz (bj Yy) q;rw [zq,<- Ez,<- ea,<- eb] at ez;injection ez with ez _;have:a+1=b+1:=by
   rcases M2 (a+1) (b+1) with q|q|q
   · exact absurd ez (db.1 nd _ _ q (by omega))
   · exact q
   exact absurd ez.symm (db.1 nd _ _ q (by omega))
  omega
 have XZ:(xJ c1.af.ce (cC (iW l i j))).length<=5:=XZ;show r.1.af.ay<=_;omega
theorem FO {a b:Int×Int} (h:a.1*b.2<=b.1*a.2): ¬gq b a<0:=by rw [MJ];exact h
theorem Jp {c:aG} (ok:aU c) (ld: ∀e∈c.af.ce.map fun x=>x.2,leads (bS c.ii.am e.2) (bS c.ii.am e.1) c.ci) {to:Int×Int} (rt:bm to) (mb:jw to) (le: ¬gq to c.ci<0) (io:Er c to):
 ∃x c1,ib c to=ae1 (c1,c.aa.bv[0]!,x,0)/\aU c1/\c1.ii=c.ii/\jF c1=jF c+1/\EvP c.ii.am x c1.ci/\c.ci.1*c1.ci.2<c1.ci.1*c.ci.2/\c1.ci.1*to.2<=to.1*c1.ci.2:=by
 obtain ⟨i0,c',Yy,num,r1,_,_,hf,hc,ge⟩:=y6 ok io.1;obtain ⟨x',c1,f1,_,tB,hf1,JF,Nj,hn1⟩:=Jk ok rt mb le io;have hb:=ok.known i0 Yy;obtain ⟨d,hd,hn⟩:=ok.xI _ (bj io.1);obtain ⟨y,hy,y1,y2,y3⟩:=ok.yX.io d hd;have hye:y=c.af.ce[i0]!:=Up.inj ok.nX hy (bj Yy) (by rw [<- y1,hn,num]);subst hye;have tm:Ev.at c.aa.bv[0]! =(bk c.ii.am (c.af.ce[i0]!).2 c.ci).1:=by
  obtain ⟨w,hw,he⟩:=aS.1 y3;have hw0:w=0:=ww fun hx=>by refine ok.kO.nd 0 w (by omega) hw ?_;rw [he,<- hn,y1]
  subst hw0;rw [he]
 have xe:x'=(c.af.ce[i0]!).2:=by have:=Jl ok rt mb le io r1;rw [f1] at this;injection this with this;injection this with _ this;injection this with _ this;injection this with this _
 obtain ⟨x,hx⟩: ∃x,x=(c.af.ce[i0]!).2:=⟨_,rfl⟩;rw [<- hx] at hb tm y2 xe;subst xe;have xm:x'∈c.af.ce.map fun x=>x.2:=v6.2 ⟨_,bj Yy,hx.symm⟩
 have l0:=ld x' xm;have hpt:=dL ok.jT hb.2;have ama:=dL ok.jT hb.1;have nl: ¬leads (bS c.ii.am x'.1) (bS c.ii.am x'.2) c.ci:=fun h=>by have:=G3 (bS c.ii.am x'.2) (bS c.ii.am x'.1) c.ci;unfold leads at h l0;omega
 have W:bk c.ii.am x' c.ci=iT (bS c.ii.am x'.2) (bS c.ii.am x'.1) c.ci:=rfl;rw [W] at tm y2;unfold iT at tm y2;rw [ut nl] at tm y2;have sl:(bS c.ii.am x'.2).2.2<(bS c.ii.am x'.1).2.2:=by
  refine ww fun h=>?_
  rw [ut h] at y2;cases y2
 rw [rc sl] at tm;have tm:Ev.at c.aa.bv[0]! =met (bS c.ii.am x'.2) (bS c.ii.am x'.1):=tm;obtain ⟨_,mr,_,me⟩:=Bb hpt.1 ama.1 (show (bS c.ii.am x'.2).2.2≠(bS c.ii.am x'.1).2.2 by omega);have z:xH (bS c.ii.am x'.2) (bS c.ii.am x'.1) (Ev.at c.aa.bv[0]!)=0:=by
  rw [tm];unfold xH;have:((bS c.ii.am x'.2).2.2- (bS c.ii.am x'.1).2.2)*(met (bS c.ii.am x'.2) (bS c.ii.am x'.1)).1= -((met (bS c.ii.am x'.2) (bS c.ii.am x'.1)).1*((bS c.ii.am x'.1).2.2- (bS c.ii.am x'.2).2.2)):=by rw [show (bS c.ii.am x'.2).2.2- (bS c.ii.am x'.1).2.2= -((bS c.ii.am x'.1).2.2- (bS c.ii.am x'.2).2.2) by omega,adM,adZ]
  rw [this,me];omega
 have evp:EvP c.ii.am x' (Ev.at c.aa.bv[0]!):=⟨hb,z,sl⟩;refine ⟨x',c1,f1,tB,hf1,Nj,by rw [hn1];exact evp,?_,?_⟩
 · rw [hn1]
   exact evp.sS (by rw [tm];exact mr.1) ok.jE.1 l0
 rw [hn1]
 have h2:=io.2;rw [XX] at h2;exact h2
structure Sys (κ:Type) where
 Adv:Int×Int->aG->List (Int×Int)->Option (κ×List (Int×Int)×Int)
 Inv:aG->Prop
 set:aG->Option aG
 res:aG->κ
 zero:κ
 ok: ∀{c},Inv c->aU c
 lead: ∀{c},Inv c-> ∀e∈c.af.ce.map fun x=>x.2,leads (bS c.ii.am e.2) (bS c.ii.am e.1) c.ci
 at_: ∀{c to},Inv c->bm to->jw to-> ¬gq to c.ci<0-> ¬Er c to->Inv (XU c to)
 stop: ∀{c to out},Inv c->bm to->jw to-> ¬gq to c.ci<0-> ¬Er c to->Adv to c out=ae1 (res (XU c to),out,0)
 ev: ∀{c to out c1 e x},Inv c->bm to->jw to-> ¬gq to c.ci<0->Er c to->ib c to=ae1 (c1,e,x,0)->aU c1->c1.ii=c.ii->ae0 out+1<=1048576->
  Adv to c out=match set c1 with|some c2=>Adv to c2 (out++[x])|none=>ae1 (zero,[],18)
 kept: ∀{c c1 c2},Inv c->aU c1->c1.ii=c.ii->set c1=ae1 c2->Inv c2/\c2.ii.am=c.ii.am/\c2.ci=c1.ci/\jF c1<=jF c2
section
variable {κ : Type} (S : Sys κ)
end
theorem Re {to:Int×Int} (rt:bm to) (mb:jw to): ∀(d:Nat) (c:aG) (l:List Int) (out:List (Int×Int)),1000000-jF c<=(d:Int)->Jm c l-> ¬gq to c.ci<0->((ae0 out):Int)<=jF c+200->
 ∃X:bJ×List (Int×Int)×Int,Lh to c l out=ae1 X/\(X.2.2=18\/X.2.2=0/\ad0 X.1 c.ii.am to/\ae0 out<=ae0 X.2.1/\ae0 X.2.1<=1000200/\X.1.jp.af.ay<=c.af.ay+5*((ae0 X.2.1-(ae0 out):Nat):Int)):=by
 have stop: ∀(c:aG) (l:List Int) (out:List (Int×Int)),Jm c l-> ¬gq to c.ci<0-> ¬Er c to->((ae0 out):Int)<=jF c+200-> ∃X:bJ×List (Int×Int)×Int,Lh to c l out=ae1 X/\(X.2.2=18\/X.2.2=0/\ad0 X.1 c.ii.am to/\ae0 out<=ae0 X.2.1/\ae0 X.2.1<=1000200/\X.1.jp.af.ay<=c.af.ay+5*((ae0 X.2.1-(ae0 out):Nat):Int)):=fun c l out h le io ho=>
  ⟨_,step_end h.ok (by have:=h.bd;omega) rt mb le io out,.inr ⟨rfl,⟨XY h rt mb le io,rfl,rfl⟩,Nat.le_refl _,by have:=Cs h.ok;show (ae0 out)<=_;omega,by show c.af.ay<=c.af.ay+5*((ae0 out-(ae0 out):Nat):Int);omega⟩⟩
 intro d
 induction d with
 |zero=>
  intro c l out hd h le ho
  by_cases io:Er c to
  · rcases FN h rt mb le io with ⟨x,c2,l2,e1,e2,e3,e4,e5,e6⟩|⟨x,l2,e1⟩
    · have:=Cs e2.ok;omega
    exact ⟨_,Jn _ e1,.inl rfl⟩
  exact stop c l out h le io ho
 |succ d ih=>
  intro c l out hd h le ho
  by_cases io:Er c to
  · have rb:=Cs h.ok
    rcases FN h rt mb le io with ⟨x,c2,l2,e1,e2,e3,e4,e5,e6⟩|⟨x,l2,e1⟩
    · have m:=Lj h rt mb le io e1
      rw [XW e1 (by omega)];obtain ⟨X,x1,x2⟩:=ih c2 l2 (out++[x]) (by omega) e2 e5 (by rw [IR,Do];omega);refine ⟨X,x1,x2.imp id fun ⟨y1,y2,y3,y4,y5⟩=>⟨y1,by rw [<- e6];exact y2,?_,y4,?_⟩⟩
      · rw [IR,Do] at y3;omega
      rw [IR,Do] at y3 y5
      have m:c2.af.ay<=c.af.ay+5:=m;omega
    exact ⟨_,Jn _ e1,.inl rfl⟩
  exact stop c l out h le io ho
theorem Jq {k:bJ} (h:jv k) (n64:jw k.jp.ci): ¬Er k.jp k.jp.ci:=fun io=>by have ok:=h.BQ;have le: ¬gq k.jp.ci k.jp.ci<0:=FO (Int.le_refl _);obtain ⟨x,c1,_,_,_,_,_,s1,s2⟩:=Jp ok (fun e he=>h.lead e (h.cert.mem_iff.1 he)) ok.jE n64 le io;omega
theorem X0 {k:bJ} (h:jv k) (n:B7 k.jp) (sh:rM k.jp) (hl:(ae0 k.bv)<=1000):fA k k.jp.ci=ae1 (k,[],0):=by have le: ¬gq k.jp.ci k.jp.ci<0:=FO (Int.le_refl _);rw [BT n sh hl h h.BQ.jE n.ci le];exact step_end h.BQ (by have:=h.bd;omega) h.BQ.jE n.ci le (Jq h n.ci) []
theorem Rf {k:bJ} (h:jv k) (n:B7 k.jp) (sh:rM k.jp) (hl:(ae0 k.bv)<=1000) {to:Int×Int} (rt:bm to) (mb:jw to):
 ∃X:bJ×List (Int×Int)×Int,fA k to=ae1 X/\(X.2.2≠0\/X.2.2=0/\ad0 X.1 k.jp.ii.am to/\ae0 X.2.1<=1000200/\X.1.jp.af.ay<=k.jp.af.ay+5*((ae0 X.2.1):Int)):=by
 by_cases le:gq to k.jp.ci<0
 · have c1:=qM ⟨n.ci,⟨sh.s3,sh.h,sh.w,n.D5⟩,sh.d⟩ hl
   rw [rc h] at c1;refine ⟨(⟨cU,[]⟩,[],44),?_,.inl (fun h=>by cases h)⟩;unfold fA;rw [c1,ax,bz rfl,pp,cw mb,rc rt,ax,bz rfl,pp,Ba mb n.ci,rc ⟨rt,h.BQ.jE⟩,ax,aM le];rfl
 have rb:=Cs h.BQ
 obtain ⟨X,x1,x2⟩:=Re rt mb (1000000-jF k.jp).toNat k.jp k.bv [] (by omega) ⟨h.BQ,h.perm,h.cert⟩ le (by simp;omega);refine ⟨X,by rw [BT n sh hl h rt mb le];exact x1,x2.imp (fun e=>by rw [e];exact fun h=>by cases h) fun ⟨y1,y2,y3,y4,y5⟩=>⟨y1,y2,y4,y5⟩⟩
section
variable {P : Int -> Int -> Prop} {S : Int -> Prop} {bit : Int -> Nat -> Nat}
end
section
variable {f : List Pt} {t : Int × Int}
end
section
variable {f : List Pt} {t : Int × Int}
end
section
variable {f : List Pt} {t : Int × Int}
end
def hP (c:aG) (r:Int) (N:List Nd) (to:Int×Int) (out:List (Int×Int)):=
 (c.ci.1,c.ci.2,c.ii.am,c.af.ay,c.af.ce,c.aa.ae.au,c.aa.ae.be,c.aa.ae.bi,c.aa.bv,c.aa.aj,c.io,r,N,to.1,to.2,(0:Int),(0:Int),(0:Int),(0:Int),out)
section
variable {f : List Pt} {t : Int × Int}
end
theorem Rg (a b:List Int) (hl:(ae0 a)<=1000000):dj a b=ae1 (ae6 (a=b)):=by
 unfold dj;simp only [aB]
 by_cases h:(ae0 a)=ae0 b
 case neg=>rw [dK (by omega),aJ (fun k=>h (by rw [k]))];rfl
 rw [bz (by omega)];simp only [pp];have key:=yY (body:=fo) (fun i=>(a,b,(i:Int))) (ae0 a) (fun i=>a[i]! =b[i]!) (r:=ae5) (e:=ae2) (fun i hi=>by
  unfold fo;simp only [aB,aM (show (i:Int)<((ae0 a):Int) by omega),pi,az a i hi,az b i (by omega),ax,ba (show i<1000000000 by omega)];constructor
  · intro h;rw [dK h];rfl
  · intro h;rw [bz h];rfl) (by
  unfold fo;simp only [aB,aJ (show¬((ae0 a):Int)<((ae0 a):Int) by omega),pp])
 refine (show _=_ from key).trans ?_
 by_cases q:a=b
 · rw [rc (fun i _=>by rw [q]),aM q]
 rw [ut (fun w=>q (wJ h w)),aJ q]
structure Lk (k:dD):Prop where
 c:rM k.jp
 n:(ae0 k.up)<=1000
theorem Jr {k:dD} (h:Lk k):dv k k=ae1 ae2:=by have hn:=h.n;unfold dv;rw [uP h.c,ax,pi,Rg _ _ (by omega),ax,aM rfl]
theorem Aj (k:dD):lR k=ae1 ae2\/(lR k=ae1 ae5/\Lk k):=by
 unfold lR
 rcases rN k.jp with e|⟨e,sh⟩
 · rw [e];exact .inl rfl
 rw [e,ax,pp,aB]
 by_cases h:70<ae0 k.up
 · rw [aM (by omega)];exact .inl rfl
 rw [aJ (by omega)];exact .inr ⟨rfl,sh,by omega⟩
def qN (p w:List Int) (i:Nat):Int:=if i<(ae0 w) then w[i]! else p[i-(ae0 w)]!
def Ll (p w:List Int):Prop:= ∀i,i<ae0 w->w[i]! =qN p w (2*i+1)\/w[i]! =qN p w (2*i+2)
def X1 (p:List Int):Prop:= ∀i j,i<j->j<ae0 p->p[i]! =p[j]!->p[i]!<0
section
variable {p w : List Int} (hl : (ae0 w) + 1 = (ae0 p)) (hc : Ll p w) (ho : X1 p)
include hl hc
include ho
end
noncomputable def ahK (f:List Pt) (t:Int×Int) (x y:Int):Int:=if x<0 then y else if y<0 then x else if leads (bS f x) (bS f y) t then x else y
def Y5 (f:List Pt) (t:Int×Int) (p w:List Int):Prop:=ae0 w+1=ae0 p/\ ∀i,i<ae0 w->w[i]! =ahK f t (qN p w (2*i+1)) (qN p w (2*i+2))
noncomputable def Y6 (f:List Pt) (t:Int×Int) (p:List Int):Nat->List Int->List Int
 |0,w=>w
 |i+1,w=>Y6 f t p i (w.set i (ahK f t (qN p w (2*i+1)) (qN p w (2*i+2))))
noncomputable def ad1 (f:List Pt) (t:Int×Int) (p:List Int):List Int:=Y6 f t p (ae0 p-1) (List.replicate (ae0 p-1) 0)
noncomputable def ahL (p w:List Int) (i:Nat):Option (Int×Int):=
 if qN p w (2*i+1)<0\/qN p w (2*i+2)<0 then none
 else if w[i]! =qN p w (2*i+1) then ae1 (qN p w (2*i+2),qN p w (2*i+1)) else ae1 (qN p w (2*i+1),qN p w (2*i+2))
noncomputable def ad2 (p w:List Int):List (Int×Int):=(List.range (ae0 w)).filterMap (ahL p w)
def ahM (f:List Pt) (x:Int):Prop:=x= -1\/(0<=x/\pB f x)
section
variable {f : List Pt} (pG : dQ f) {t : Int × Int} (r : bm t) (mb : jw t) {p : List Int} (h1 : 1 <= (ae0 p)) (h64 : (ae0 p) <= 64) (hk : ∀ x ∈ p, ahM f x)
include pG mb h1 h64 hk
include r
end
structure amc (p w:List Int):Prop where
 one:1<=ae0 p
 jU:(ae0 p)<=64
 len:(ae0 w)+1=ae0 p
 amd:X1 p
 XJ: ∀x∈p,-1<=x/\x<=65535
 cho:Ll p w
 none_: ∀i,i<ae0 w->w[i]!<0->qN p w (2*i+1)<0/\qN p w (2*i+2)<0
section
variable {p w : List Int} (hl : (ae0 w) + 1 = (ae0 p)) (h64 : (ae0 p) <= 64) (hc : Ll p w)
include hl h64
include hc
end
structure ahN (f:List Pt) (p:List Int):Prop where
 one:1<=ae0 p
 jU:(ae0 p)<=64
 amd:X1 p
 ids: ∀x∈p,ahM f x
section
variable {f : List Pt} (pG : dQ f) {t : Int × Int} (r : bm t) (mb : jw t) {p : List Int} (pl : ahN f p)
include pG mb pl
include r
end
def ahO (p:List Int):List Int:=p.filter fun x=>decide (0<=x)
def ame (n:Nat):Prop:= ∃i,i<7/\n=2^i
section
variable {f : List Pt} (h64 : (ae0 f) <= 64)
include h64
end
structure Rh (k:dM):Prop where
 BQ:aU k.jp
 br:amc k.kw.bM k.kw.fC
 pow:ame (ae0 k.kw.bM)
 perm:(vg k.jp.ii.am).Perm (ahO k.kw.bM)
 right:k.kw.fC=ad1 k.jp.ii.am k.jp.ci k.kw.bM
 cert:(k.jp.af.ce.map fun x=>x.2).Perm (ad2 k.kw.bM k.kw.fC)
section
variable {f : List Pt} (pG : dQ f) {t : Int × Int} {p w : List Int} (pl : ahN f p) (R : Y5 f t p w)
include pG pl R
end
structure y7 (k:dM):Prop where
 c:rM k.jp
 p:(ae0 k.kw.bM)<=1000
 w:(ae0 k.kw.fC)<=1000
theorem Lm {k:dM} (h:y7 k):fS k k=ae1 ae2:=by have h1:=h.p;have h2:=h.w;unfold fS uq;rw [uP h.c,ax,pi,Ep _ (by omega),ax,pi,Ep _ (by omega),ax,ax]
theorem BU (k:dM):lP k=ae1 ae2\/(lP k=ae1 ae5/\y7 k):=by
 unfold lP wB
 rcases rN k.jp with e|⟨e,sh⟩
 · rw [e];exact .inl rfl
 rw [e,ax,pp];simp only [aB]
 by_cases h:70<ae0 k.kw.bM
 · rw [aM (by omega)];exact .inl rfl
 rw [aJ (by omega),pp,ax]
 by_cases h2:70<ae0 k.kw.fC
 · rw [aM (by omega)];exact .inl rfl
 rw [aJ (by omega)];exact .inr ⟨rfl,sh,by omega,by omega⟩
section
variable {f : List Pt} {t : Int × Int} {p w : List Int} (hr : Y5 f t p w) (h64 : (ae0 p) <= 64) (ho : X1 p)
include hr ho
include h64
end
section
variable {k : dM} (n : B7 k.jp) (sh : y7 k)
include n sh
end
section
variable {k : dM} (n : B7 k.jp) (sh : y7 k)
include n sh
end
section
variable {k : dM} (ok : Rh k) (sh : y7 k)
include ok sh
end
section
variable {k : dM} (ok : Rh k) (sh : y7 k) (id : Int)
include ok sh
end
section
variable {f : List Pt}
end
section
variable {f : List Pt} (pG : dQ f) (h8 : (ae0 f) <= 8) (r : Nat)
include pG h8
end
theorem o8 {α β:Type} (x:α) (l:List α):(AC (x::l).length !=AC ([]:List β).length)=ae2:=by rw [bne_iff_ne];intro h;injection h with h;cases h
theorem Eu (l:List Int):dj l []=ae1 ae5\/(dj l []=ae1 ae2/\l=[]):=by
 cases l with
 |nil=>exact .inr ⟨aI rfl,rfl⟩
 |cons x l=>left;unfold dj;rw [o8];rfl
theorem Bl (l:List Int):eT l []=ae1 ae5\/(eT l []=ae1 ae2/\l=[]):=by
 cases l with
 |nil=>exact .inr ⟨aI rfl,rfl⟩
 |cons x l=>left;unfold eT;rw [o8];rfl
theorem Ln (l:List Bool):fR l []=ae1 ae5\/(fR l []=ae1 ae2/\l=[]):=by
 cases l with
 |nil=>exact .inr ⟨aI rfl,rfl⟩
 |cons x l=>left;unfold fR;rw [o8];rfl
theorem Lo (f:Field):hO f ⟨[]⟩=ae1 ae5\/(hO f ⟨[]⟩=ae1 ae2/\f=⟨[]⟩):=by
 obtain ⟨l⟩:=f;cases l with
 |nil=>exact .inr ⟨aI rfl,rfl⟩
 |cons x l=>left;unfold hO;rw [o8];rfl
theorem Lp (c:aX):ji c ⟨0,[]⟩=ae1 ae5\/(ji c ⟨0,[]⟩=ae1 ae2/\c=⟨0,[]⟩):=by
 obtain ⟨n,l⟩:=c;unfold ji
 by_cases h:n=0
 · subst h
   cases l with
   |nil=>exact .inr ⟨aI rfl,rfl⟩
   |cons x l=>left;rw [bz rfl,pp];dsimp only;rw [o8];rfl
 left
 rw [show ((⟨n,l⟩:aX).ay !=(⟨0,[]⟩:aX).ay)=ae2 from bne_iff_ne.2 h];rfl
theorem Lq (c:aQ):nC c ⟨[],[],[]⟩=ae1 ae5\/(nC c ⟨[],[],[]⟩=ae1 ae2/\c=⟨[],[],[]⟩):=by
 obtain ⟨a,b,d⟩:=c;unfold nC;dsimp only;rcases Bl a with e|⟨e,rfl⟩
 · rw [e];exact .inl rfl
 rw [e,ax,pi];rcases Ln b with e|⟨e,rfl⟩
 · rw [e];exact .inl rfl
 rw [e,ax,pi];rcases Bl d with e|⟨e,rfl⟩
 · rw [e];exact .inl rfl
 rw [e];exact .inr ⟨rfl,rfl⟩
theorem Js (c:aF):jk c ⟨⟨[],[],[]⟩,[],[]⟩=ae1 ae5\/(jk c ⟨⟨[],[],[]⟩,[],[]⟩=ae1 ae2/\c=⟨⟨[],[],[]⟩,[],[]⟩):=by
 obtain ⟨s,h,w⟩:=c;unfold jk;dsimp only;rcases Lq s with e|⟨e,rfl⟩
 · rw [e];exact .inl rfl
 rw [e,ax,v4,pp];rcases Bl w with e|⟨e,rfl⟩
 · rw [e];exact .inl rfl
 rw [e,ax,v4,pp];cases h with
 |nil=>exact .inr ⟨aI rfl,rfl⟩
 |cons x l=>left;rw [o8];rfl
theorem y8 (c:aG):hU c cU=ae1 ae5\/(hU c cU=ae1 ae2/\c=cU):=by
 obtain ⟨⟨a,b⟩,f,cs,ag,du⟩:=c;unfold hU;dsimp only
 by_cases h:a=0/\b=0
 case neg=>
  left;rw [show ((a==(0:Int))&&(b==(0:Int)))=ae5 from by
   rw [Bool.and_eq_false_iff]
   by_cases ha:a=0
   · exact .inr (eY (fun hb=>h ⟨ha,hb⟩))
   exact .inl (eY ha)];rfl
 obtain ⟨rfl,rfl⟩:=h;rw [show (!(((0:Int)==(0:Int))&&((0:Int)==(0:Int))))=ae5 from rfl,pp];rcases Lo f with e|⟨e,rfl⟩
 · rw [show hO f cU.ii=_ from e];exact .inl rfl
 rw [show hO ⟨[]⟩ cU.ii=_ from e,ax,v4,pp];rcases Lp cs with e|⟨e,rfl⟩
 · rw [show ji cs cU.af=_ from e];exact .inl rfl
 rw [show ji ⟨0,[]⟩ cU.af=_ from e,ax,v4,pp];rcases Js ag with e|⟨e,rfl⟩
 · rw [show jk ag cU.aa=_ from e];exact .inl rfl
 rw [show jk ⟨⟨[],[],[]⟩,[],[]⟩ cU.aa=_ from e,ax,v4,pp];cases du with
 |nil=>exact .inr ⟨aI rfl,rfl⟩
 |cons x l=>left;rw [show (AC (x::l).length !=AC (ae0 cU.io))=ae2 from o8 x l];rfl
abbrev y9:dM:=⟨cU,⟨[],[]⟩⟩
abbrev za:ek:=⟨cU,⟨0,[]⟩⟩
abbrev zb:dD:=⟨cU,[]⟩
theorem Lr (k:dM):fS k y9=ae1 ae5\/(fS k y9=ae1 ae2/\k=y9):=by
 obtain ⟨c,⟨p,w⟩⟩:=k;unfold fS y9;dsimp only;rcases y8 c with e|⟨e,rfl⟩
 · rw [e];exact .inl rfl
 rw [e,ax,pi];unfold uq;dsimp only;rcases Eu p with e|⟨e,rfl⟩
 · rw [e];exact .inl rfl
 rw [e,ax,pi];rcases Eu w with e|⟨e,rfl⟩
 · rw [e];exact .inl rfl
 rw [e];exact .inr ⟨rfl,rfl⟩
theorem Jt (k:ek):eU k za=ae1 ae5\/(eU k za=ae1 ae2/\k=za):=by
 obtain ⟨c,⟨r,n⟩⟩:=k;unfold eU za;dsimp only;rcases y8 c with e|⟨e,rfl⟩
 · rw [e];exact .inl rfl
 rw [e,ax,pi];unfold lS;dsimp only
 by_cases h:r=0
 case neg=>rw [show (r !=(0:Int))=ae2 from bne_iff_ne.2 h];exact .inl rfl
 subst h;rw [bz rfl,pp];cases n with
 |nil=>exact .inr ⟨by rw [show (AC ([]:List Nd).length !=AC ([]:List Nd).length)=ae5 from rfl,pp,aI (r:=ae2) rfl];rfl,rfl⟩
 |cons x l=>left;rw [o8];rfl
theorem Ju (k:dD):dv k zb=ae1 ae5\/(dv k zb=ae1 ae2/\k=zb):=by
 obtain ⟨c,u⟩:=k;unfold dv zb;dsimp only;rcases y8 c with e|⟨e,rfl⟩
 · rw [e];exact .inl rfl
 rw [e,ax,pi];rcases Eu u with e|⟨e,rfl⟩
 · rw [e];exact .inl rfl
 rw [e];exact .inr ⟨rfl,rfl⟩
def xC (k:bJ):Choice:=⟨1,k,y9,za,zb⟩
abbrev X2 (c:Choice):=(c.lw,c.bv.jp.ci.1,c.bv.jp.ci.2,c.bv.jp.ii.am,c.bv.jp.af.ay,c.bv.jp.af.ce,c.bv.jp.aa.ae.au,c.bv.jp.aa.ae.be,c.bv.jp.aa.ae.bi,c.bv.jp.aa.bv,c.bv.jp.aa.aj,c.bv.jp.io,c.bv.bv,c.ar.jp.ci.1,c.ar.jp.ci.2,c.ar.jp.ii.am,c.ar.jp.af.ay,c.ar.jp.af.ce,c.ar.jp.aa.ae.au,c.ar.jp.aa.ae.be,c.ar.jp.aa.ae.bi,c.ar.jp.aa.bv,c.ar.jp.aa.aj,c.ar.jp.io,c.ar.kw.bM,c.ar.kw.fC,c.ao.jp.ci.1,c.ao.jp.ci.2,c.ao.jp.ii.am,c.ao.jp.af.ay,c.ao.jp.af.ce,c.ao.jp.aa.ae.au,c.ao.jp.aa.ae.be,c.ao.jp.aa.ae.bi,c.ao.jp.aa.bv,c.ao.jp.aa.aj,c.ao.jp.io,c.ao.ls.lc,c.ao.ls.lm,c.aq.jp.ci.1,c.aq.jp.ci.2,c.aq.jp.ii.am,c.aq.jp.af.ay,c.aq.jp.af.ce,c.aq.jp.aa.ae.au,c.aq.jp.aa.ae.be,c.aq.jp.aa.ae.bi,c.aq.jp.aa.bv,c.aq.jp.aa.aj,c.aq.jp.io,c.aq.up)
def Ri (t:Int×Int):Prop:=bm t/\ -1073741824<=t.1/\t.1<=1073741824/\t.2<=1024
theorem G4 {t:Int×Int} (h:jw t): ∃e,cf t=ae1 e/\(e=0->Ri t):=by
 unfold cf;rw [qF h]
 by_cases r:bm t
 case neg=>rw [ut r];exact ⟨8,rfl,fun h=>by cases h⟩
 rw [rc r,ax,bz rfl,pp]
 by_cases a:1073741824<t.1
 · rw [aM a];exact ⟨2,rfl,fun h=>by cases h⟩
 rw [aJ a,pp]
 by_cases b:t.1< -1073741824
 · rw [aM b];exact ⟨2,rfl,fun h=>by cases h⟩
 rw [aJ b,pp]
 by_cases d:1024<t.2
 · rw [aM d];exact ⟨2,rfl,fun h=>by cases h⟩
 rw [aJ d];exact ⟨0,rfl,fun _=>⟨r,by omega,by omega,by omega⟩⟩
theorem Rj {t:Int×Int} (h:jw t) (r:bm t):gY t=ae1 2\/(gY t=ae1 0/\Ri t):=by
 unfold gY;rw [cw h,rc r,ax,bz rfl,pp,jq h.1,ax]
 by_cases a:1073741824<(t.1.natAbs:Int)
 · rw [aM a];exact .inl rfl
 rw [aJ a,pp]
 by_cases d:1024<t.2
 · rw [aM d];exact .inl rfl
 rw [aJ d];exact .inr ⟨rfl,r,by omega,by omega,by omega⟩
theorem Jv {t:Int×Int} (h:jw t) (a:Ri t):gY t=ae1 0:=by unfold gY;obtain ⟨r,a1,a2,a3⟩:=a;rw [cw h,rc r,ax,bz rfl,pp,jq h.1,ax,aJ (by omega),pp,aJ (by omega)];rfl
theorem Rk {K:bJ} {T:dM} {H:ek} {G:dD} (n:B7 K.jp) (sh:rM K.jp) (hl:(ae0 K.bv)<=1000):
 oX ⟨1,K,T,H,G⟩=ae1 8\/(oX ⟨1,K,T,H,G⟩=ae1 0/\T=y9/\H=za/\G=zb/\jv K/\Ri K.jp.ci):=by
 unfold oX;simp only [show ((1:Int) !=1)=ae5 from rfl,show ((1:Int) !=2)=ae2 from rfl,show ((1:Int) !=3)=ae2 from rfl,show ((1:Int) !=4)=ae2 from rfl,show ((1:Int)==1)=ae2 from rfl,pi,pp];rcases Lr T with e|⟨e,rfl⟩
 · left;rw [show fS T _=_ from e];rfl
 rw [show fS y9 _=_ from e,ax,v4,pp];rcases Jt H with e|⟨e,rfl⟩
 · left;rw [show eU H _=_ from e];rfl
 rw [show eU za _=_ from e,ax,v4,pp];rcases Ju G with e|⟨e,rfl⟩
 · left;rw [show dv G _=_ from e];rfl
 rw [show dv zb _=_ from e,ax,v4,pp];rw [En ⟨n.ci,⟨sh.s3,sh.h,sh.w,n.D5⟩,sh.d⟩ hl,ax]
 by_cases ok:jv K
 case neg=>rw [ut ok];exact .inl rfl
 rw [rc ok,bz rfl,pp];show (cf K.jp.ci).bind _=ae1 8\/(cf K.jp.ci).bind _=ae1 0/\_;obtain ⟨e,e1,e2⟩:=G4 n.ci;rw [e1,ax]
 by_cases h:e=0
 · subst h;exact .inr ⟨rfl,rfl,rfl,rfl,ok,e2 rfl⟩
 rw [show (e !=0)=ae2 from bne_iff_ne.2 h];exact .inl rfl
theorem Rl (c:aG): ∃b,bP c=ae1 b:=by
 unfold bP;cases (c.ci.1==0)&&(c.ci.2==0) with
 |false=>exact ⟨_,rfl⟩
 |true=>
  rw [pi];cases c.af.ay==0 with
  |false=>exact ⟨_,rfl⟩
  |true=>exact ⟨_,rfl⟩
structure Ak (k:bJ):Prop where
 ok:jv k
 n:B7 k.jp
 sh:rM k.jp
 ask:Ri k.jp.ci
theorem Ak.len {k:bJ} (h:Ak k):(ae0 k.bv)<=1000:=by have:=h.ok.bd;omega
theorem Jw {k:bJ} (h:Ak k) (u:Bool):aE aY (u,ae5,ae5,ae5,0,X2 (xC k))=ae1 0:=by
 have s0:aY (u,ae5,ae5,ae5,0,X2 (xC k))=ae1 (.next (u,ae5,ae5,ae5,1,X2 (xC k))):=by cases u<;>rfl
 have s1:aY (u,ae5,ae5,ae5,1,X2 (xC k))=ae1 (.next (u,ae5,ae5,ae5,2,X2 (xC k))):=rfl;have s2:aY (u,ae5,ae5,ae5,2,X2 (xC k))=ae1 (.next (u,ae5,ae5,ae5,3,X2 (xC k))):=rfl;have s3:aY (u,ae5,ae5,ae5,3,X2 (xC k))=ae1 (.next (u,ae5,ae5,ae5,4,X2 (xC k))):=rfl;rw [aW s0,aW s1,aW s2,aW s3];refine aI ?_;have c1:=qM ⟨h.n.ci,⟨h.sh.s3,h.sh.h,h.sh.w,h.n.D5⟩,h.sh.d⟩ h.len;rw [rc h.ok] at c1;show (lT k).bind (fun n0=>bif n0 !=0 then ae1 (Step.done 8) else (gY k.jp.ci).bind fun n2=>bif n2 !=0 then ae1 (Step.done 8) else ae1 (Step.done 0))=ae1 (Step.done 0);rw [c1,ax,bz rfl,pp,Jv h.n.ci h.ask];rfl
theorem Ls {k:bJ} (h:Ak k):mV (xC k)=ae1 0:=by
 unfold mV;obtain ⟨b,hb⟩:=Rl k.jp;rw [show bP (xC k).bv.jp=_ from hb,ax];cases b with
 |false=>exact Jw h ae2
 |true=>exact Jw h _
theorem Rm {k:bJ} (h:Ak k):qA (xC k)=ae1 (k.jp.ci,⟨k.jp.ii.am⟩,0):=by have:=h.ok.BQ.jT.1;unfold qA;rw [Ls h,ax,bz rfl,pp];show (cD k.jp.ii.am).bind _=_;rw [bo (show (ae0 k.jp.ii.am)<=1048576 by omega),ax];rfl
theorem FP {k:bJ} (h:Ak k):iO (xC k)=ae1 ((ae0 k.jp.ii.am):Int):=by unfold iO;rw [Rm h,ax];rfl
theorem ad3 {k:bJ} (h:Ak k) {to:Int×Int} (mb:jw to):
 ∃R:Choice×List (Int×Int)×Int,dG (xC k) to=ae1 R/\(R.2.2≠0\/R.2.2=0/\ ∃k',R.1=xC k'/\Ak k'/\k'.jp.ii.am=k.jp.ii.am/\ae0 R.2.1<=1000200/\k'.jp.af.ay<=k.jp.af.ay+5*((ae0 R.2.1):Int)):=by
 unfold dG;rw [Ls h,ax,bz rfl,pp,cw mb,ax]
 by_cases rt:bm to
 case neg=>rw [ut rt];exact ⟨_,rfl,.inl (fun h=>by cases h)⟩
 rw [rc rt,bz rfl,pp];rcases Rj mb rt with e|⟨e,ask⟩
 · rw [e];exact ⟨_,rfl,.inl (fun h=>by cases h)⟩
 rw [e,ax,bz rfl,pp];obtain ⟨X,x1,x2⟩:=Rf h.ok h.n h.sh h.len rt mb;show∃R,(fA k to).bind _=ae1 R/\_;rw [x1,ax];rcases x2 with e|⟨e,hp,len,XZ⟩
 · rw [show (X.2.2 !=0)=ae2 from bne_iff_ne.2 e]
   exact ⟨_,rfl,.inl e⟩
 rw [e,bz rfl]
 have BQ:=hp.ok.BQ;refine ⟨_,rfl,.inr ⟨rfl,X.1,rfl,⟨hp.ok,?_,BQ.short,by rw [hp.ci];exact ask⟩,hp.jT,len,XZ⟩⟩;exact ⟨by rw [hp.ci];exact mb,BQ.fit.ag.D5⟩
theorem ad4 {k:bJ} (h:Ak k):dG (xC k) k.jp.ci=ae1 (xC k,[],0):=by unfold dG;rw [Ls h,ax,bz rfl,pp,cw h.n.ci,rc h.ok.BQ.jE,ax,bz rfl,pp,Jv h.n.ci h.ask,ax,bz rfl,pp];show (fA k k.jp.ci).bind _=_;rw [X0 h.ok h.n h.sh h.len,ax];rfl
abbrev X3:=Int×Int×Int×Int×Int×Int×Int
abbrev rS (l:List X3) (i:Int) (c o:Choice) (ev mk pt:Int):=(l,((ae0 l):Int),i,c.lw,c.bv.jp.ci.1,c.bv.jp.ci.2,c.bv.jp.ii.am,c.bv.jp.af.ay,c.bv.jp.af.ce,c.bv.jp.aa.ae.au,c.bv.jp.aa.ae.be,c.bv.jp.aa.ae.bi,c.bv.jp.aa.bv,c.bv.jp.aa.aj,c.bv.jp.io,c.bv.bv,c.ar.jp.ci.1,c.ar.jp.ci.2,c.ar.jp.ii.am,c.ar.jp.af.ay,c.ar.jp.af.ce,c.ar.jp.aa.ae.au,c.ar.jp.aa.ae.be,c.ar.jp.aa.ae.bi,c.ar.jp.aa.bv,c.ar.jp.aa.aj,c.ar.jp.io,c.ar.kw.bM,c.ar.kw.fC,c.ao.jp.ci.1,c.ao.jp.ci.2,c.ao.jp.ii.am,c.ao.jp.af.ay,c.ao.jp.af.ce,c.ao.jp.aa.ae.au,c.ao.jp.aa.ae.be,c.ao.jp.aa.ae.bi,c.ao.jp.aa.bv,c.ao.jp.aa.aj,c.ao.jp.io,c.ao.ls.lc,c.ao.ls.lm,c.aq.jp.ci.1,c.aq.jp.ci.2,c.aq.jp.ii.am,c.aq.jp.af.ay,c.aq.jp.af.ce,c.aq.jp.aa.ae.au,c.aq.jp.aa.ae.be,c.aq.jp.aa.ae.bi,c.aq.jp.aa.bv,c.aq.jp.aa.aj,c.aq.jp.io,c.aq.up,(0:Int),(0:Int),(0:Int),(0:Int),(0:Int),(0:Int),(0:Int),(0:Int),(0:Int),(0:Int),(0:Int),(0:Int),(0:Int),(0:Int),(0:Int),(0:Int),(0:Int),o.lw,o.bv.jp.ci.1,o.bv.jp.ci.2,o.bv.jp.ii.am,o.bv.jp.af.ay,o.bv.jp.af.ce,o.bv.jp.aa.ae.au,o.bv.jp.aa.ae.be,o.bv.jp.aa.ae.bi,o.bv.jp.aa.bv,o.bv.jp.aa.aj,o.bv.jp.io,o.bv.bv,o.ar.jp.ci.1,o.ar.jp.ci.2,o.ar.jp.ii.am,o.ar.jp.af.ay,o.ar.jp.af.ce,o.ar.jp.aa.ae.au,o.ar.jp.aa.ae.be,o.ar.jp.aa.ae.bi,o.ar.jp.aa.bv,o.ar.jp.aa.aj,o.ar.jp.io,o.ar.kw.bM,o.ar.kw.fC,o.ao.jp.ci.1,o.ao.jp.ci.2,o.ao.jp.ii.am,o.ao.jp.af.ay,o.ao.jp.af.ce,o.ao.jp.aa.ae.au,o.ao.jp.aa.ae.be,o.ao.jp.aa.ae.bi,o.ao.jp.aa.bv,o.ao.jp.aa.aj,o.ao.jp.io,o.ao.ls.lc,o.ao.ls.lm,o.aq.jp.ci.1,o.aq.jp.ci.2,o.aq.jp.ii.am,o.aq.jp.af.ay,o.aq.jp.af.ce,o.aq.jp.aa.ae.au,o.aq.jp.aa.ae.be,o.aq.jp.aa.ae.bi,o.aq.jp.aa.bv,o.aq.jp.aa.aj,o.aq.jp.io,o.aq.up,ev,mk,pt)
theorem Jx (a:X3) (c o:Choice) (ev mk pt:Int):iP (rS [a] 0 c o ev mk pt)=
 (p5 o a).bind fun a1=>bif a1.2.2 !=0 then ae1 (.next (rS [a] 1 c o ev mk pt)) else (iO a1.1).bind fun n2=>ae1 (.next (rS [a] 1 c a1.1 (ai .i64 (ev+(AC (ae0 a1.2.1)))) mk (if n2>pt then n2 else pt))):=rfl
theorem ML (a:X3) (c o:Choice) (ev mk pt:Int):iP (rS [a] 1 c o ev mk pt)=
 (kK o).bind fun n3=>(kK c).bind fun n4=>ae1 (.done (o,(ev,ai .i64 (n3-n4),pt),0)):=rfl
theorem Oh {k:bJ} (h:Ak k) (a:X3):lW (xC k) [a]=aE iP (rS [a] 0 (xC k) (xC k) 0 0 ((ae0 k.jp.ii.am):Int)):=by unfold lW;rw [Rm h,ax,bz rfl,pp,show ae6 ((120:Int)<AC [a].length)=ae5 from rfl,pp,ad4 h,ax,FP h,ax];rfl
theorem MM (k:bJ) (ok:jv k):kK (xC k)=ae1 k.jp.af.ay:=by have n0:=ok.BQ.oC.n0;have n1:=ok.BQ.oC.n1;show ae1 (ai .i64 ((ai .i64 ((ai .i64 (k.jp.af.ay+0))+0))+0))=_;have w:=u7 (n:=k.jp.af.ay) ⟨by omega,by omega⟩;simp only [Int.add_zero,w]
theorem Jy {k:bJ} (h:Ak k):nM (xC k) (xC k)=ae1 ae2:=by
 unfold nM;rw [show ((xC k).lw==(xC k).lw)=ae2 from rfl,pi];show (nD k k).bind _=_;rw [Oa h.sh (by have:=h.len;omega),ax,pi];have s1:y7 y9:=by
  rcases BU y9 with e|⟨_,h⟩
  · cases e.symm.trans (show lP y9=ae1 ae5 from rfl)
  exact h
 have s2:Lf za:=by
  rcases Ah za with e|⟨_,h⟩
  · cases e.symm.trans (show lQ za=ae1 ae5 from rfl)
  exact h
 have s3:Lk zb:=by
  rcases Aj zb with e|⟨_,h⟩
  · cases e.symm.trans (show lR zb=ae1 ae5 from rfl)
  exact h
 show (fS y9 y9).bind _=_;rw [Lm s1,ax,pi];show (eU za za).bind _=_;rw [Ji s2,ax,pi];show (dv zb zb).bind _=_;rw [Jr s3];rfl
theorem X4 {k:bJ} (h:Ak k) {to:Int×Int} {R:Choice×List (Int×Int)×Int} (e:dG (xC k) to=ae1 R)
 (r:R.2.2≠0\/R.2.2=0/\ ∃k',R.1=xC k'/\Ak k'/\k'.jp.ii.am=k.jp.ii.am/\ae0 R.2.1<=1000200/\k'.jp.af.ay<=k.jp.af.ay+5*((ae0 R.2.1):Int)):
 ∃S:Choice×(Int×Int×Int)×Int,lW (xC k) [(4,0,0,0,0,to)]=ae1 S/\S.2.2=0/\S.2.1.2.2=((ae0 k.jp.ii.am):Int)/\
  (R.2.2≠0/\S.1=xC k/\S.2.1.1=0/\S.2.1.2.1=0\/R.2.2=0/\S.1=R.1/\S.2.1.1=((ae0 R.2.1):Int)/\S.2.1.2.1<=5*((ae0 R.2.1):Int)):=by
 rw [Oh h];have st:p5 (xC k) (4,0,0,0,0,to)=ae1 R:=by show (dG (xC k) to).bind _=_;rw [e,ax]
 have n0:=MM k h.ok;rcases r with r|⟨r,k',r1,r2,r3,r4,r5⟩
 · refine ⟨(xC k,(0,0,((ae0 k.jp.ii.am):Int)),0),?_,rfl,rfl,.inl ⟨r,rfl,rfl,rfl⟩⟩
   rw [aW (show iP _=ae1 (.next _) from by rw [Jx,st,ax,show (R.2.2 !=0)=ae2 from bne_iff_ne.2 r,pi])];refine aI ?_;rw [ML,n0,ax,ax,Int.sub_self];rfl
 have pt:=FP r2
 rw [r3] at pt;have n1:=MM k' r2.ok;have a0:=h.ok.BQ.oC.n0;have a1:=h.ok.BQ.oC.n1;have b0:=r2.ok.BQ.oC.n0;have b1:=r2.ok.BQ.oC.n1;refine ⟨(R.1,(((ae0 R.2.1):Int),k'.jp.af.ay-k.jp.af.ay,((ae0 k.jp.ii.am):Int)),0),?_,rfl,rfl,.inr ⟨r,rfl,rfl,by show k'.jp.af.ay-k.jp.af.ay<=_;omega⟩⟩;rw [aW (show iP _=ae1 (.next _) from by rw [Jx,st,ax,show (R.2.2 !=0)=ae5 from by rw [r];rfl,pp,r1,pt,ax])];refine aI ?_;rw [ML,n1,ax,n0,ax,aB,Int.zero_add,u7 ⟨by omega,by omega⟩,u7 ⟨by omega,by omega⟩,ut (by omega),r1]
theorem uR (c:Choice) (to:Int×Int) (n:B7 c.bv.jp) (mb:jw to):mX c to=ae1 ae2:=by
 obtain ⟨lw,K,T,H,G⟩:=c;have n:B7 K.jp:=n;unfold mX;rw [ax];have ahP:oR ⟨lw,K,T,H,G⟩=ae1 ae2\/(oR ⟨lw,K,T,H,G⟩=ae1 ae5/\rM K.jp/\ae0 K.bv<=70):=by
  unfold oR
  dsimp only;rcases Ld K with e|⟨e,sh,hl⟩
  · rw [e];exact .inl rfl
  rw [e,ax,pp];rcases BU T with e|⟨e,_⟩
  · rw [e];exact .inl rfl
  rw [e,ax,pp];rcases Ah H with e|⟨e,_⟩
  · rw [e];exact .inl rfl
  rw [e,ax,pp];rcases Aj G with e|⟨e,_⟩
  · rw [e];exact .inl rfl
  rw [e];exact .inr ⟨rfl,sh,hl⟩
 rcases ahP with e|⟨e,sh,hl⟩
 · rw [e];rfl
 rw [e,ax,pp];have BQ: ∃q,cB ⟨lw,K,T,H,G⟩=ae1 q:=by
  unfold cB;dsimp only;cases lw==1 with
  |true=>exact ⟨_,rfl⟩
  |false=>
   rw [pp];cases lw==2 with
   |true=>exact ⟨_,rfl⟩
   |false=>
    rw [pp];cases lw==3 with
    |true=>exact ⟨_,rfl⟩
    |false=>exact ⟨_,rfl⟩
 obtain ⟨q,hq⟩:=BQ;rw [hq,ax];unfold yP;rw [ax];cases ae6 (10<AC (ae0 q.ii.am)) with
 |true=>rfl
 |false=>
 rw [pp]
 by_cases tg:lw=1
 case neg=>rw [show ((⟨lw,K,T,H,G⟩:Choice).lw !=1)=ae2 from bne_iff_ne.2 tg];rfl
 subst tg;rw [show ((⟨1,K,T,H,G⟩:Choice).lw !=1)=ae5 from rfl,pp];rcases Rk n sh (show (ae0 K.bv)<=1000 by omega) (T:=T) (H:=H) (G:=G) with e|⟨e,rfl,rfl,rfl,ok,ask⟩
 · rw [e];rfl
 rw [e,ax,bz rfl,pp,v4,pp];have ch:Ak K:=⟨ok,n,sh,ask⟩;obtain ⟨R,e,r⟩:=ad3 ch mb;obtain ⟨S,s,s0,sp,sr⟩:=X4 ch e r;have cy:((ae0 K.jp.ii.am):Int)=((ae0 K.bv):Int):=congrArg AC (jv.len (k:=K) ok).symm;rw [show lW ⟨1,K,y9,za,zb⟩ [(4,0,0,0,0,to)]=_ from s,ax,show dG ⟨1,K,y9,za,zb⟩ to=_ from e,ax,s0,bz rfl,pp,sp,
  show (((ae0 K.jp.ii.am):Int) !=AC (⟨1,K,y9,za,zb⟩:Choice).bv.bv.length)=ae5 from by rw [aB];exact bz cy]
 rcases sr with ⟨s1,s2,s3,s4⟩|⟨s1,s2,s3,s4⟩
 · rw [s3,s4,s2,show (R.2.2 !=0)=ae2 from bne_iff_ne.2 s1,show ae6 (ai .i64 (5*0)<(0:Int))=ae5 from rfl]
   show (nM (xC K) (xC K)).bind _=_;rw [Jy ch];rfl
 have hr:(ae0 R.2.1)<=1000200:=by
  rcases r with r|⟨_,_,_,_,_,r,_⟩
  · exact absurd s1 r
  exact r
 rw [s3,s2,s1,u7 ⟨by omega,by omega⟩,aJ (by omega),pp,pp,bz rfl,pp,pi,aB,fb rfl,pi];rcases r with r|⟨_,k',r1,r2,_⟩
 · exact absurd s1 r
 rw [r1,Jy r2];rfl
theorem B7.of {c:aG} (h1:RT.wf [.i .i64,.i .i64] c.ci) (h2: ∀a∈c.aa.bv,RT.wf [.i .i64,.i .i64,.i .i64,.i .i64,.i .i64] a):B7 c where
 ci:=⟨wf_i64 h1.1,wf_i64 h1.2⟩
 D5 w hw:=by have:=h2 (c.aa.bv[w]!) (by rw [getElem!_pos c.aa.bv w hw];exact List.getElem_mem hw);exact ⟨wf_i64 this.1,wf_i64 this.2.1⟩
end Go.Proofs.YtclphlgnjkajbaaGreat
