/- Plain laws (4). -/
import Derived.Test.YticklbjcnimggaaGreatMQM3
import Derived.Test.YticklbjcnimggaaGreatMQS2
import Derived.Test.YticklbjcnimggaaGreatMVm3
namespace Go.Proofs.YticklbjcnimggaaGreat
open Go.Vm Classical
theorem VQ (l:List (Int×Int)) (hl:l.length<=1048576):oT l l=some true:=by
 unfold oT;rw [bX rfl,cond_false]
 have:=cI (body:=lV) (fun i=>(l,l,(i:Int))) l.length (fun i hi=>by
  unfold lV;simp only [aF,aO (show (i:Int)<(l.length:Int) by omega),cond_true,aE l i hi,aB,fR rfl,Bool.and_self,Bool.not_true,cond_false,aZ (show i<1000000000 by omega)])
 rw [show (l,l,(0:Int))=(l,l,((0:Nat):Int)) from rfl,this];refine aK ?_;unfold lV;simp only [aF,aL (show¬(l.length:Int)<(l.length:Int) by omega),cond_false]
end Go.Proofs.YticklbjcnimggaaGreat
namespace Go.Proofs.YticklbjcnimggaaGreat
open Go.Vm Classical
end Go.Proofs.YticklbjcnimggaaGreat
namespace Go.Proofs.YticklbjcnimggaaGreat
open Go.Vm Classical
theorem P6 (p q:Pt) (t:Int×Int):LV p q t=(p.2.1*t.2+p.2.2*t.1) - (q.2.1*t.2+q.2.2*t.1):=by
 rw [GT,Int.sub_mul,Int.sub_mul];omega
theorem TD {p q r:Pt} {t:Int×Int} (h1:fF p q t) (h2:fF q r t):fF p r t:=by
 unfold fF at*;rw [P6] at*;generalize p.2.1*t.2+p.2.2*t.1=a at*;generalize q.2.1*t.2+q.2.2*t.1=b at*;generalize r.2.1*t.2+r.2.2*t.1=c at*;omega
theorem I2 {p q:Pt} (t:Int×Int) (h:p.1≠q.1) (hn: ¬fF p q t):fF q p t:=by
 unfold fF at*;rw [P6] at*;generalize p.2.1*t.2+p.2.2*t.1=a at*;generalize q.2.1*t.2+q.2.2*t.1=b at*;omega
end Go.Proofs.YticklbjcnimggaaGreat
namespace Go.Proofs.YticklbjcnimggaaGreat
open Go.Vm Classical
def M3 (f:List Pt) (t:Int×Int) (i j:Nat):Prop:=fF f[i]! f[j]! t
theorem TE {p q:Pt} {t:Int×Int} (h:fF p q t): ¬fF q p t:=by
 unfold fF at*;rw [P6] at*;generalize p.2.1*t.2+p.2.2*t.1=a at*;generalize q.2.1*t.2+q.2.2*t.1=b at*;omega
theorem JV {f:List Pt} (h:kZ f) (t:Int×Int):aBz (M3 f t) f.length where
 tr:=fun _ _ _ _ _ _ h1 h2=>TD h1 h2
 asy:=fun _ _ _ _ h=>TE h
 tot:=fun i j hi hj hne hn=>I2 t (fun e=>hne (rY h hi hj e)) hn
structure fQ (f:List Pt) (t:Int×Int) (N:List Nd) (r:Int):Prop where
 len:N.length=f.length
 ids: ∀k,k<f.length->(N[k]!).1=(f[k]!).1
 tree:mD (M3 f t) N 0 f.length r
theorem fQ.same {f:List Pt} (h:kZ f) {t:Int×Int} {N N':List Nd} {r r':Int} (a:fQ f t N r) (b:fQ f t N' r'):N=N'/\r=r':=by
 obtain ⟨e1,e2⟩:=a.tree.unique (JV h t) (Nat.le_refl _) b.tree;refine ⟨CL (by rw [a.len,b.len]) fun k hk=>?_,e1⟩
 have hk:k<f.length:=by rw [<- a.len];exact hk
 exact Prod.ext (by rw [a.ids k hk,b.ids k hk]) (e2 k (Nat.zero_le _) hk)
def Below (N:List Nd) (k j:Nat):Prop:=(N[j]!).2.1=(k:Int)\/(N[j]!).2.2=(k:Int)
noncomputable def mS (N:List Nd) (k:Nat):Nat:=if h: ∃j,j<N.length/\Below N k j then h.choose else N.length
noncomputable def I3 (N:List Nd) (k:Nat):List (Int×Int):=if mS N k<N.length then [((N[k]!).1,(N[mS N k]!).1)] else []
noncomputable def bQ (N:List Nd):Nat->List (Int×Int)
 |0=>[]
 |k+1=>bQ N k++I3 N k
theorem pE (N:List Nd): ∀k,(bQ N k).length<=k
 |0=>Nat.le_refl _
 |k+1=>by
  have:=pE N k
  rw [bQ,List.length_append];unfold I3;split
  · simp only [List.length_singleton];omega
  · simp only [List.length_nil];omega
theorem A5 {N:List Nd}: ∀{n:Nat} {e:Int×Int},e∈bQ N n↔ ∃k,k<n/\mS N k<N.length/\e=((N[k]!).1,(N[mS N k]!).1)
 |0,e=>by
  constructor
  · intro h;cases h
  · rintro ⟨k,h,_⟩;omega
 |n+1,e=>by
  rw [bQ,List.mem_append,A5];constructor
  · rintro (⟨k,h1,h2⟩|h)
    · exact ⟨k,by omega,h2⟩
    · unfold I3 at h
      split at h
      · exact ⟨n,by omega,by assumption,List.mem_singleton.1 h⟩
      · cases h
  · rintro ⟨k,h1,h2,h3⟩
    by_cases q:k=n
    · subst q
      right;unfold I3;rw [if_pos h2,h3];exact List.mem_singleton.2 rfl
    · exact .inl ⟨k,by omega,h2,h3⟩
section
variable {f : List Pt} {t : Int × Int} {N : List Nd} {r : Int}
theorem fQ.par (h:fQ f t N r) {k:Nat} (hk:k<f.length):((k:Int)=r->mS N k=N.length)/\((k:Int)≠r->mS N k<N.length/\Below N k (mS N k)/\mS N k≠k/\M3 f t (mS N k) k)/\ ∀m,m<N.length->Below N k m->m=mS N k:=by
 have ln:=h.len
 by_cases hr:(k:Int)=r
 · have none: ¬ ∃j,j<N.length/\Below N k j:=by
    rintro ⟨j,hj,hb⟩;rcases h.tree.kids j (Nat.zero_le _) (by omega) (k:Int) hb with e|⟨_,_,_,_,_,_,e⟩
    · omega
    · exact e hr.symm
   have e:mS N k=N.length:=by unfold mS;rw [dif_neg none]
   exact ⟨fun _=>e,fun q=>absurd hr q,fun m hm hb=>absurd ⟨m,hm,hb⟩ none⟩
 · obtain ⟨j,_,j2,j3,j4⟩:=h.tree.up k (Nat.zero_le _) hk hr
   have ex: ∃j,j<N.length/\Below N k j:=⟨j,by omega,j3⟩
   have e:mS N k=j:=by
    unfold mS;rw [dif_pos ex]
    have:=ex.choose_spec
    exact j4 _ (Nat.zero_le _) (by omega) this.2
   refine ⟨fun q=>absurd q hr,fun _=>?_,fun m hm hb=>by rw [e];exact j4 m (Nat.zero_le _) (by omega) hb⟩
   rw [e];refine ⟨by omega,j3,?_,?_⟩
   · rcases h.tree.kids j (Nat.zero_le _) j2 (k:Int) j3 with q|⟨i,q,_,_,q2,_⟩
     · omega
     · intro w;omega
   · rcases h.tree.kids j (Nat.zero_le _) j2 (k:Int) j3 with q|⟨i,q,_,_,_,q2,_⟩
     · omega
     · have:i=k:=by omega
       rw [<- this];exact q2
theorem fQ.edges (fok:dC f) (h:fQ f t N r):JU f (bQ N f.length)/\(bQ N f.length).Nodup/\ ∀e∈bQ N f.length,fF (mQ f e.2) (mQ f e.1) t:=by
 have ln:=h.len;have f1:=fok.1;have inf: ∀e∈bQ N f.length,∃k j,k<f.length/\j<f.length/\j≠k/\M3 f t j k/\e=((f[k]!).1,(f[j]!).1):=by
  intro e he;obtain ⟨k,k1,k2,k3⟩:=A5.1 he;have hp:=h.par k1;have hr:(k:Int)≠r:=fun q=>by have:=hp.1 q;omega
  obtain ⟨p1,p2,p3,p4⟩:=hp.2.1 hr;exact ⟨k,mS N k,k1,by omega,p3,p4,by rw [k3,h.ids k k1,h.ids (mS N k) (by omega)]⟩
 have hb: ∀e∈bQ N f.length,jE f e:=fun e he=>by
  obtain ⟨k,j,k1,j1,_,_,rfl⟩:=inf e he;exact ⟨⟨k,k1,rfl⟩,⟨j,j1,rfl⟩⟩
 refine ⟨⟨Nat.le_trans (pE N _) (by omega),fun e he=>?_,hb⟩,?_,fun e he=>?_⟩
 · obtain ⟨⟨p1,p2⟩,q1,q2⟩:=And.intro (iG fok (hb e he).1) (iG fok (hb e he).2)
   obtain ⟨k,j,k1,j1,ne,_,rfl⟩:=inf e he
   have:(f[k]!).1≠(f[j]!).1:=fun q=>ne (rY fok.2.2 k1 j1 q).symm
   unfold gI at p1 q1;unfold fN;dsimp only at*;omega
 · have go: ∀n,n<=f.length->(bQ N n).Nodup:=by
    intro n
    induction n with
    |zero=>exact fun _=>List.nodup_nil
    |succ n ih=>
     intro hn;rw [bQ,List.nodup_append];refine ⟨ih (by omega),?_,fun x hx y hy e=>?_⟩
     · unfold I3;split
       · exact List.nodup_cons.2 ⟨List.not_mem_nil,List.nodup_nil⟩
       · exact List.nodup_nil
     · subst e
       obtain ⟨k,k1,_,k3⟩:=A5.1 hx;unfold I3 at hy;split at hy
       · have hy:=List.mem_singleton.1 hy
         rw [k3] at hy;have e1:(N[k]!).1=(N[n]!).1:=(Prod.mk.inj hy).1;rw [h.ids k (by omega),h.ids n (by omega)] at e1
         have:=rY fok.2.2 (by omega) (by omega) e1
         omega
       · cases hy
   exact go _ (Nat.le_refl _)
 · obtain ⟨k,j,k1,j1,_,p,rfl⟩:=inf e he
   rw [A4 fok.2.2 j1 rfl,A4 fok.2.2 k1 rfl];exact p
end
end Go.Proofs.YticklbjcnimggaaGreat
namespace Go.Proofs.YticklbjcnimggaaGreat
open Go.Vm Classical
theorem aOe {f:List Pt} (fok:dC f) {t:Int×Int} (r:bP t) (r64:nT t) {i j:Nat} (hi:i<f.length) (hj:j<f.length) (hne:i≠j):nP f[i]! f[j]! t=some (decide (M3 f t i j),0):=by
 have ne:(f[i]!).1≠(f[j]!).1:=fun h=>hne (rY fok.2.2 hi hj h)
 rcases JE (fok.2.1 _ (bF hi)) (fok.2.1 _ (bF hj)) r64 r with h|⟨h,_⟩
 · rw [h,if_neg ne];rfl
 · exact absurd h ne
def eI (es:List Nat):List Int:=es.map fun e:Nat=>(e:Int)
theorem X1 (E:List Int) (m:Nat) (x:Int) (h:m+1<=E.length):(fY E m [x]).length=E.length:=by
 unfold fY;simp only [List.length_append,List.length_take,List.length_drop,List.length_singleton];omega
theorem aBZ (es:List Nat):(eI es).length=es.length:=List.length_map ..
theorem aH2 (es:List Nat) {j:Nat} (h:j<es.length):(eI es)[j]! =(es[j]!:Int):=by
 rw [getElem!_pos (eI es) j (by rw [aBZ];exact h),getElem!_pos es j h]
 exact List.getElem_map ..
theorem X2 (es:List Nat) (m:Nat):eI (es.take m)=(eI es).take m:=List.map_take ..
def o2 (f:List Pt) (t:Int×Int) (e c:Nat) (i:Nat) (root:Int) (N:List Nd) (E:List Int):=
 (e,c,f,(f.length:Int),(i:Int),f,t.1,t.2,(0:Int),root,N,E)
def o1 (f:List Pt) (t:Int×Int) (e c:Nat) (i:Nat) (root:Int) (N:List Nd) (E:List Int) (left:Int):=
 (e,c,(i:Int),f,(f.length:Int),(i:Int),f,t.1,t.2,(0:Int),root,N,E,(f[i]!).1,(f[i]!).2.1,(f[i]!).2.2,(f[i]!).1,left,(-1:Int))
def zI (f:List Pt) (N:List Nd) (es:List Nat) (i m:Nat):List Nd:=
 (if m=0 then N else N.set es[m-1]! ((N[es[m-1]!]!).1,(N[es[m-1]!]!).2.1,(i:Int)))++[((f[i]!).1,if m<es.length then (es[m]!:Int) else -1,-1)]
theorem aQL {f:List Pt} (fok:dC f) {t:Int×Int} (r:bP t) (r64:nT t) {i:Nat} (hi:i<f.length) {es:List Nat} (hes: ∀e∈es,e<i) {N:List Nd} (hN:N.length=i) {root:Int} {E:List Int} (hE:E.take es.length=eI es) (le:es.length<=E.length) (lE:E.length<=1000):
 ∀(e:Nat),e<=es.length->(∀j,e<=j->j<es.length-> ¬M3 f t es[j]! i)->
  ∃(m:Nat) (E':List Int),m<=e/\(0<m->M3 f t es[m-1]! i)/\(∀j,m<=j->j<es.length-> ¬M3 f t es[j]! i)/\E'.take (m+1)=eI (es.take m++[i])/\m+1<=E'.length/\E'.length<=E.length+1/\
   aI qG (o1 f t e E.length i root N E (if e<es.length then (es[e]!:Int) else -1))=some (.next (o2 f t (m+1) E'.length (i+1) (if m=0 then (i:Int) else root) (zI f N es i m) E')):=by
 have f1:=fok.1;have sc:=aZ (show i<1000000000 by omega)
 have put: ∀m,m<=es.length-> ∃E':List Int,E'.take (m+1)=eI (es.take m++[i])/\m+1<=E'.length/\E'.length<=E.length+1/\
  ((m+1<=E.length->E'=fY E m [(i:Int)])/\(¬m+1<=E.length->E'=E.take m++[(i:Int)])):=by
  intro m hm;have tm:E.take m=eI (es.take m):=by rw [X2,<- hE,List.take_take,Nat.min_eq_left hm]
  have ei:eI (es.take m++[i])=eI (es.take m)++[(i:Int)]:=List.map_append ..;have lm:(E.take m++[(i:Int)]).length=m+1:=by rw [List.length_append,List.length_take,List.length_singleton];omega
  by_cases h:m+1<=E.length
  · refine ⟨fY E m [(i:Int)],?_,?_,?_,fun _=>rfl,fun q=>absurd h q⟩
    · unfold fY
      rw [ei,<- tm,List.take_append_of_le_length (by omega),List.take_of_length_le (by omega)]
    · unfold fY;rw [List.length_append];omega
    · unfold fY;rw [List.length_append,lm,List.length_drop,List.length_singleton];omega
  · refine ⟨E.take m++[(i:Int)],?_,by omega,by omega,fun q=>absurd q h,fun _=>rfl⟩
    rw [List.take_of_length_le (by omega),ei,tm]
 have en: ∀(s:Nat),([(i:Int)]:List Int).length=1:=fun _=>rfl
 have ble_t: ∀{a b:Nat},a<=b->Nat.ble a b=true:=fun h=>Nat.ble_eq_true_of_le h
 have ble_f: ∀{a b:Nat},¬a<=b->Nat.ble a b=false:=fun h=>by
  cases hb:Nat.ble _ _ with
  |false=>rfl
  |true=>exact absurd (Nat.le_of_ble_eq_true hb) h
 intro e
 induction e with
 |zero=>
  intro _ hall;obtain ⟨E',e1,e2,e3,e4,e5⟩:=put 0 (Nat.zero_le _);refine ⟨0,E',Nat.le_refl _,fun h=>absurd h (Nat.lt_irrefl _),hall,e1,e2,e3,aK ?_⟩
  have ap: ∀x:Nd,bI N [x]=some (N++[x]):=fun x=>dK (by rw [List.length_singleton];omega)
  have ap2:bI (E.take 0) [(i:Int)]=some (E.take 0++[(i:Int)]):=dK (by rw [List.length_singleton,List.length_take];omega)
  unfold qG o1 o2 zI
  by_cases h:0+1<=E.length
  · simp only [aF,aL (show¬(0:Int)<((0:Nat):Int) by omega),cond_false,ap,aB,List.length_singleton,ble_t h,cond_true,Bool.not_false,Bool.and_self,sc,e4 h,if_true]
    rw [X1 _ _ _ h]
  · simp only [aF,aL (show¬(0:Int)<((0:Nat):Int) by omega),cond_false,ap,aB,List.length_singleton,ble_f h,ap2,ble_t (Nat.zero_le E.length),cond_true,sc,e5 h,if_true]
    rfl
 |succ e ih=>
  intro he hall;have tk:E.take (e+1)=eI (es.take (e+1)):=by rw [X2,<- hE,List.take_take,Nat.min_eq_left he]
  have lt:(eI (es.take (e+1))).length=e+1:=by rw [aBZ,List.length_take];omega
  have ge:aQ (E.take (e+1)) ((e:Nat):Int)=some (es[e]!:Int):=by
   rw [tk,aE _ e (by omega),aH2 _ (by rw [List.length_take];omega),kX (by omega)]
  have ew:aA .i64 (((e+1:Nat):Int) -1)=((e:Nat):Int):=by rw [GE ⟨by omega,by omega⟩];omega
  have eb:es[e]!<i:=hes _ (bF (by omega))
  have gp:=aE f es[e]! (by omega)
  have ah:=aOe fok (t:=(t.1,t.2)) r r64 (i:=es[e]!) (j:=i) (by omega) hi (by omega)
  have gn:=aE N es[e]! (by omega)
  have peta:((f[i]!).1,(f[i]!).2.1,(f[i]!).2.2)=f[i]!:=rfl
  by_cases c:M3 f t es[e]! i
  · rw [show decide (M3 f (t.1,t.2) es[e]! i)=true from aO c] at ah
    obtain ⟨E',e1,e2,e3,e4,e5⟩:=put (e+1) he;refine ⟨e+1,E',Nat.le_refl _,fun _=>c,hall,e1,e2,e3,aK ?_⟩
    have ap: ∀(y x:Nd),bI (N.set es[e]! y) [x]=some (N.set es[e]! y++[x]):=fun y x=>dK (by rw [List.length_singleton,List.length_set];omega)
    have ap2:bI (E.take (e+1)) [(i:Int)]=some (E.take (e+1)++[(i:Int)]):=dK (by rw [List.length_singleton,List.length_take];omega)
    unfold qG o1 o2 zI;rw [show e+1-1=e from rfl,if_neg (Nat.succ_ne_zero e),if_neg (Nat.succ_ne_zero e)]
    by_cases h:e+1+1<=E.length
    · simp only [aF,aO (show (0:Int)<((e+1:Nat):Int) by omega),cond_true,ew,ge,aB,gp,peta,ah,gn,nD,ap,List.length_singleton,ble_t h,Bool.not_false,Bool.and_self,sc,e4 h]
      rw [X1 _ _ _ h]
    · simp only [aF,aO (show (0:Int)<((e+1:Nat):Int) by omega),cond_true,ew,ge,aB,gp,peta,ah,gn,nD,ap,List.length_singleton,ble_f h,cond_false,ap2,ble_t (show e+1<=E.length by omega),sc,e5 h]
      rw [show (E.take (e+1)++[(i:Int)]).length=e+1+1 from by rw [List.length_append,List.length_take,List.length_singleton];omega]
  · rw [show decide (M3 f (t.1,t.2) es[e]! i)=false from aL c] at ah
    obtain ⟨m,E',h1,h2,h3,h4,h5,h6,h7⟩:=ih (by omega) (fun j j1 j2=>by
     by_cases q:j=e
     · rw [q];exact c
     · exact hall j (by omega) j2)
    refine ⟨m,E',by omega,h2,h3,h4,h5,h6,?_⟩
    rw [if_pos (show e<es.length by omega)] at h7
    rw [<- h7];refine aY ?_;unfold qG o1;simp only [aF,aO (show (0:Int)<((e+1:Nat):Int) by omega),cond_true,ew,ge,aB,gp,peta,ah,cond_false,aO (show (0:Int)<=((e:Nat):Int) by omega),aO (show ((e:Nat):Int)<=(E.length:Int) by omega),Bool.and_self,Int.toNat_natCast]
end Go.Proofs.YticklbjcnimggaaGreat
namespace Go.Proofs.YticklbjcnimggaaGreat
open Go.Vm Classical
theorem aH3 {f:List Pt} {N:List Nd} {es:List Nat} {i m:Nat} (hN:N.length=i) (hes: ∀e∈es,e<i) (hm:m<=es.length):
 (zI f N es i m).length=i+1/\(zI f N es i m)[i]! =((f[i]!).1,if m<es.length then (es[m]!:Int) else -1,-1)/\
 ∀k,k<i->((zI f N es i m)[k]!).1=(N[k]!).1/\((zI f N es i m)[k]!).2.1=(N[k]!).2.1/\((0<m/\k=es[m-1]!)->((zI f N es i m)[k]!).2.2=(i:Int))/\(¬(0<m/\k=es[m-1]!)->((zI f N es i m)[k]!).2.2=(N[k]!).2.2):=by
 unfold zI
 by_cases m0:m=0
 · rw [if_pos m0]
   refine ⟨by rw [List.length_append,hN];rfl,?_,fun k hk=>?_⟩
   · rw [gT (by omega),hN,Nat.sub_self];rfl
   · rw [gQ (by omega)]
     exact ⟨rfl,rfl,fun q=>by omega,fun _=>rfl⟩
 · rw [if_neg m0]
   have hb:=hes _ (bF (show m-1<es.length by omega))
   refine ⟨by rw [List.length_append,List.length_set,hN];rfl,?_,fun k hk=>?_⟩
   · rw [gT (by rw [List.length_set];omega),List.length_set,hN,Nat.sub_self];rfl
   · rw [gQ (by rw [List.length_set];omega),bD]
     by_cases q:k=es[m-1]!
     · rw [if_pos ⟨q,by omega⟩,q]
       exact ⟨rfl,rfl,fun _=>rfl,fun w=>absurd ⟨by omega,rfl⟩ w⟩
     · rw [if_neg (fun w=>q w.1)]
       exact ⟨rfl,rfl,fun w=>absurd w.2 q,fun _=>rfl⟩
theorem aQM {f:List Pt} (fok:dC f) {t:Int×Int} (r:bP t) (r64:nT t): ∀(d i:Nat) (es:List Nat) (N:List Nd) (root:Int) (E:List Int),f.length-i<=d->i<=f.length->N.length=i->(∀k,k<i->(N[k]!).1=(f[k]!).1)->
 xI (M3 f t) N 0 i root es->E.take es.length=eI es->es.length<=E.length->E.length<=i->
 ∃(root':Int) (N':List Nd),aI nQ (o2 f t es.length E.length i root N E)=some (⟨root',N'⟩,0)/\fQ f t N' root':=by
 have f1:=fok.1;have fin: ∀(es:List Nat) (N:List Nd) (root:Int) (E:List Int),N.length=f.length->(∀k,k<f.length->(N[k]!).1=(f[k]!).1)->xI (M3 f t) N 0 f.length root es->
  ∃(root':Int) (N':List Nd),aI nQ (o2 f t es.length E.length f.length root N E)=some (⟨root',N'⟩,0)/\fQ f t N' root':=fun es N root E h1 h2 h3=>
  ⟨root,N,aK (by
   unfold nQ o2;simp only [aL (show¬(f.length:Int)<(f.length:Int) by omega),cond_false]),⟨h1,h2,h3.tree⟩⟩
 intro d
 induction d with
 |zero=>
  intro i es N root E hd hi h1 h2 h3 _ _ _
  have:i=f.length:=by omega
  subst this;exact fin es N root E h1 h2 h3
 |succ d ih=>
  intro i es N root E hd hi h1 h2 h3 h4 h5 h6
  by_cases he:i=f.length
  · subst he;exact fin es N root E h1 h2 h3
  have hi':i<f.length:=by omega
  have o:=JV fok.2.2 t;have mem:=h3.mem;have hes: ∀e∈es,e<i:=fun e he=>(mem e he).2
  obtain ⟨m,E',m1,m2,m3,m4,m5,m6,m7⟩:=aQL fok r r64 hi' hes h1 (root:=root) h4 h5 (by omega) es.length (Nat.le_refl _) (fun j j1 j2=>by omega)
  rw [if_neg (Nat.lt_irrefl _)] at m7;have st:nQ (o2 f t es.length E.length i root N E)=some (.next (o2 f t (m+1) E'.length (i+1) (if m=0 then (i:Int) else root) (zI f N es i m) E')):=by
   unfold nQ
   conv=>lhs;unfold o2
   simp only [aO (show (i:Int)<(f.length:Int) by omega),cond_true,aE f i hi',aB]
   exact m7
  obtain ⟨a1,a2,a3⟩:=aH3 (f:=f) h1 hes m1;have sp:=h3.add o (N':=zI f N es i m) m (Nat.zero_le _) hi' m1 (fun j hj=>by
   by_cases q:j=m-1
   · rw [q];exact m2 (by omega)
   · have hj':=hes _ (bF (show j<es.length by omega))
     have hm':=hes _ (bF (show m-1<es.length by omega))
     exact o.tr _ es[m-1]! _ (by omega) (by omega) hi' (h3.chain j (m-1) (by omega) (by omega)) (m2 (by omega))) m3
   (by rw [a2]) (by rw [a2]) (fun k _ hk=>by
    obtain ⟨_,b2,b3,b4⟩:=a3 k hk;exact ⟨b2,b3,b4⟩)
  have le:(es.take m++[i]).length=m+1:=by rw [List.length_append,List.length_take,List.length_singleton];omega
  rw [aY st]
  have:=ih (i+1) (es.take m++[i]) (zI f N es i m) (if m=0 then (i:Int) else root) E' (by omega) (by omega) a1 (fun k hk=>by
   by_cases q:k=i
   · rw [q,a2]
   · rw [(a3 k (by omega)).1];exact h2 k (by omega)) sp (by rw [le];exact m4) (by rw [le];exact m5) (by omega)
  rw [le] at this;exact this
theorem aH4 {f:List Pt} (fok:dC f) {t:Int×Int} (r:bP t) (r64:nT t): ∃(root:Int) (N:List Nd),C8 ⟨f⟩ t=some (⟨root,N⟩,0)/\fQ f t N root:=by
 obtain ⟨root,N,h1,h2⟩:=aQM fok r r64 f.length 0 [] [] (-1) [] (by omega) (by omega) rfl (fun k hk=>by omega) (.nil (Nat.le_refl _)) rfl (Nat.le_refl _) (Nat.le_refl _)
 refine ⟨root,N,?_,h2⟩;have hc:gE ⟨f⟩=some 0:=by rw [nH];exact congrArg some (nG.2 fok)
 unfold C8 AN;rw [hc,aB,bX rfl,cond_false,dL r64,if_pos r,aB,aB,bX rfl,cond_false];exact h1
theorem aOf {f:List Pt} (fok:dC f) {t:Int×Int} (r64:nT t) {a b:Nat} (hb:b<=f.length): ∀(d j best:Nat),b-j<=d->j<=b->BI (M3 f t) a j best-> ∃i:Nat,aI jR ((b:Int),(best:Int),(j:Int),f,t)=some (i:Int)/\BI (M3 f t) a b i:=by
 have f1:=fok.1;have o:=JV fok.2.2 t;have fin: ∀best:Nat,BI (M3 f t) a b best-> ∃i:Nat,aI jR ((b:Int),(best:Int),(b:Int),f,t)=some (i:Int)/\BI (M3 f t) a b i:=fun best h=>⟨best,aK (by
  unfold jR;simp only [aL (show¬(b:Int)<(b:Int) by omega),cond_false]),h⟩
 intro d
 induction d with
 |zero=>
  intro j best hd hj h
  have:j=b:=by omega
  subst this;exact fin best h
 |succ d ih=>
  intro j best hd hj h
  by_cases he:j=b
  · subst he;exact fin best h
  have h1:=h.lo;have h2:=h.hi;have sc:=aZ (show j<1000000000 by omega)
  have ld:=LX (fok.2.1 _ (bF (show j<f.length by omega))) (fok.2.1 _ (bF (show best<f.length by omega))) r64
  by_cases c:M3 f t j best
  · rw [show decide (fF f[j]! f[best]! t)=true from aO c] at ld
    rw [aY (y:=((b:Int),(j:Int),((j+1:Nat):Int),f,t)) (by
     unfold jR;simp only [aO (show (j:Int)<(b:Int) by omega),cond_true,aL (show¬(best:Int)<0 by omega),cond_false,aE f j (by omega),aE f best (by omega),aB,ld,sc])]
    refine ih (j+1) j (by omega) (by omega) ⟨by omega,by omega,fun k k1 k2 k3=>?_⟩
    by_cases q:k=best
    · rw [q];exact c
    · exact o.tr j best k (by omega) (by omega) (by omega) c (h.top k k1 (by omega) q)
  · rw [show decide (fF f[j]! f[best]! t)=false from aL c] at ld
    rw [aY (y:=((b:Int),(best:Int),((j+1:Nat):Int),f,t)) (by
     unfold jR;simp only [aO (show (j:Int)<(b:Int) by omega),cond_true,aL (show¬(best:Int)<0 by omega),cond_false,aE f j (by omega),aE f best (by omega),aB,ld,sc])]
    refine ih (j+1) best (by omega) (by omega) ⟨h1,by omega,fun k k1 k2 k3=>?_⟩
    by_cases q:k=j
    · rw [q];exact o.tot j best (by omega) (by omega) (by omega) c
    · exact h.top k k1 (by omega) k3
theorem aOg {f:List Pt} (fok:dC f) {t:Int×Int} (r64:nT t) {a b:Nat} (hab:a<b) (hb:b<=f.length): ∃i:Nat,uY ⟨f⟩ t (a:Int) (b:Int)=some (i:Int)/\BI (M3 f t) a b i:=by
 have f1:=fok.1;obtain ⟨i,h1,h2⟩:=aOf fok r64 hb (b- (a+1)) (a+1) a (by omega) (by omega) (show BI (M3 f t) a (a+1) a from ⟨by omega,by omega,fun k k1 k2 k3=>by omega⟩)
 refine ⟨i,?_,h2⟩;unfold uY;rw [aY (y:=((b:Int),(a:Int),((a+1:Nat):Int),f,t)) (by
  unfold jR;simp only [aO (show (a:Int)<(b:Int) by omega),cond_true,aO (show (-1:Int)<0 by omega),aZ (show a<1000000000 by omega)])]
 exact h1
theorem TF (f:List Pt) (t:Int×Int) (a:Nat):uY ⟨f⟩ t (a:Int) (a:Int)=some (-1):=by
 unfold uY;refine aK ?_;unfold jR;simp only [aL (show¬(a:Int)<(a:Int) by omega),cond_false]
theorem aH5 {f:List Pt} (fok:dC f) {t:Int×Int} (r64:nT t): ∀(d m a b:Nat) (N:List Nd),b-a<=d->d<m->a<=b->b<=f.length->N.length=f.length->
 ∃(r:Int) (N':List Nd),iU m (f,t.1,t.2,0,(a:Int),(b:Int),N)=some (r,N')/\N'.length=f.length/\(∀k:Nat,(N'[k]!).1=(N[k]!).1)/\(∀k:Nat,(k<a\/b<=k)->N'[k]! =N[k]!)/\mD (M3 f t) N' a b r:=by
 have f1:=fok.1;intro d
 induction d with
 |zero=>
  intro m a b N hd hm hab hb hN
  have:a=b:=by omega
  subst this;cases m with
  |zero=>omega
  |succ m=>
   refine ⟨-1,N,?_,hN,fun _=>rfl,fun _ _=>rfl,.nil (Nat.le_refl _)⟩
   show fH _ _=_;unfold fH;simp only [show ((t.1,t.2):Int×Int)=t from rfl,TF f t a,aB,aL (show¬(0:Int)<= -1 by omega),cond_false,beq_self_eq_true,cond_true]
 |succ d ih=>
  intro m a b N hd hm hab hb hN;cases m with
  |zero=>omega
  |succ m=>
  by_cases e:a=b
  · subst e
    refine ⟨-1,N,?_,hN,fun _=>rfl,fun _ _=>rfl,.nil (Nat.le_refl _)⟩
    show fH _ _=_;unfold fH;simp only [show ((t.1,t.2):Int×Int)=t from rfl,TF f t a,aB,aL (show¬(0:Int)<= -1 by omega),cond_false,beq_self_eq_true,cond_true]
  obtain ⟨i,t1,t2⟩:=aOg fok r64 (show a<b by omega) hb
  have lo:=t2.lo;have hi:=t2.hi;obtain ⟨l,N1,g1,g2,g3,g4,g5⟩:=ih m a i N (by omega) (by omega) lo (by omega) hN
  have gi:=aE N1 i (by omega)
  obtain ⟨rr,N2,k1,k2,k3,k4,k5⟩:=ih m (i+1) b (N1.set i ((N1[i]!).1,l,(N1[i]!).2.2)) (by omega) (by omega) (by omega) hb (by rw [List.length_set];exact g2)
  have gj:=aE N2 i (by omega)
  have n2i:N2[i]! =((N1[i]!).1,l,(N1[i]!).2.2):=by rw [k4 i (.inl (by omega)),bD,if_pos ⟨rfl,by omega⟩]
  have n3i:(N2.set i ((N2[i]!).1,(N2[i]!).2.1,rr))[i]! =((N1[i]!).1,l,rr):=by rw [bD,if_pos ⟨rfl,by omega⟩,n2i]
  have n3: ∀k,k≠i->(N2.set i ((N2[i]!).1,(N2[i]!).2.1,rr))[k]! =N2[k]!:=fun k hk=>by rw [bD,if_neg (fun w=>hk w.1)]
  have n1: ∀k,k≠i->(N1.set i ((N1[i]!).1,l,(N1[i]!).2.2))[k]! =N1[k]!:=fun k hk=>by rw [bD,if_neg (fun w=>hk w.1)]
  refine ⟨(i:Int),N2.set i ((N2[i]!).1,(N2[i]!).2.1,rr),?_,by rw [List.length_set];exact k2,fun k=>?_,fun k hk=>?_,?_⟩
  · show fH _ _=_
    unfold fH;simp only [show ((t.1,t.2):Int×Int)=t from rfl,t1,aB,aO (show (0:Int)<=(i:Int) by omega),cond_true,g1,gi,nD,aZ (show i<1000000000 by omega),k1,gj,List.length_set,k2,hN,beq_self_eq_true]
  · by_cases q:k=i
    · rw [q,n3i,<- g3 i]
    · rw [n3 k q,k3 k,n1 k q,g3 k]
  · rw [n3 k (by omega),k4 k (by omega),n1 k (by omega),g4 k (by omega)]
  · refine .node t2 ?_ ?_
    · rw [n3i]
      refine g5.frame fun k h1 h2=>?_
      rw [n3 k (by omega),k4 k (.inl (by omega)),n1 k (by omega)]
    · rw [n3i]
      refine k5.frame fun k h1 h2=>?_
      rw [n3 k (by omega)]
theorem OE {f:List Pt} (fok:dC f) {t:Int×Int} (r64:nT t): ∃(root:Int) (N:List Nd),rW ⟨f⟩ t=some ⟨root,N⟩/\fQ f t N root:=by
 have f1:=fok.1
 let ini:Nat->List Nd:=fun i=>(f.take i).map fun p=>(p.1,0,0)
 have il: ∀i,i<=f.length->(ini i).length=i:=fun i hi=>by show (List.map _ _).length=_;rw [List.length_map,List.length_take];omega
 have key:=cI (body:=oI) (fun i=>((i:Int),f,t.1,t.2,0,0,ini i)) f.length (fun i hi=>by
  have nx:ini (i+1)=ini i++[((f[i]!).1,0,0)]:=by
   show List.map _ _=List.map _ _++_;rw [iV hi,List.map_append];rfl
  unfold oI;simp only [aF,aO (show (i:Int)<(f.length:Int) by omega),cond_true,aE f i hi,aB,aZ (show i<1000000000 by omega),nx]
  rw [dK (by rw [il i (by omega),List.length_singleton];omega),aB])
 obtain ⟨r,N,g1,g2,g3,_,g5⟩:=aH5 fok r64 f.length 1000000 0 f.length (ini f.length) (by omega) (by omega) (by omega) (Nat.le_refl _) (il _ (Nat.le_refl _))
 refine ⟨r,N,?_,⟨g2,fun k hk=>?_,g5⟩⟩
 · unfold rW E1
   rw [show aI oI (0,f,t.1,t.2,0,0,[])=_ from key];rw [aK (r:=(⟨r,N⟩:mW)) (by
    unfold oI;have g1':rV (f,t.1,t.2,0,0,(f.length:Int),ini f.length)=some (r,N):=g1;simp only [aF,aL (show¬(f.length:Int)<(f.length:Int) by omega),cond_false,g1',aB]),aB]
 · rw [g3 k]
   show (((f.take f.length).map fun p=>((p.1,0,0):Nd))[k]!).1=_
   rw [getElem!_pos _ k (by rw [List.length_map,List.length_take];omega),List.getElem_map,List.getElem_take,getElem!_pos f k hk]
end Go.Proofs.YticklbjcnimggaaGreat
namespace Go.Proofs.YticklbjcnimggaaGreat
open Go.Vm Classical
def JF (U:List Int) (c:Int) (i:Nat):List Int:=if 0<=c then U.set c.toNat (i:Int) else U
def upL (N:List Nd) (U:List Int):Nat->List Int
 |0=>U
 |i+1=>JF (JF (upL N U i) (N[i]!).2.1 i) (N[i]!).2.2 i
theorem GU (U:List Int) (c:Int) (i:Nat):(JF U c i).length=U.length:=by unfold JF;split<;>simp
theorem GV (N:List Nd) (U:List Int): ∀i,(upL N U i).length=U.length
 |0=>rfl
 |i+1=>by rw [upL,GU,GU,GV N U i]
theorem OF (U:List Int) (c:Int) (i k:Nat) (hk:k<U.length):(JF U c i)[k]! =if c=(k:Int) then (i:Int) else U[k]!:=by
 unfold JF
 by_cases h:0<=c
 · rw [if_pos h,bD]
   by_cases q:c=(k:Int)
   · rw [if_pos ⟨by omega,by omega⟩,if_pos q]
   · rw [if_neg (fun w=>q (by omega)),if_neg q]
 · rw [if_neg h,if_neg (by omega)]
theorem ZR {α:Type} [Inhabited α] {n i:Nat} (a:α) (h:i<n):(List.replicate n a)[i]! =a:=by
 rw [getElem!_pos _ i (by rw [List.length_replicate];exact h),List.getElem_replicate]
section
variable {f : List Pt} {t : Int × Int} {N : List Nd} {r : Int}
theorem fQ.link (h:fQ f t N r) {j:Nat} (hj:j<f.length) {c:Int} (hc:(N[j]!).2.1=c\/(N[j]!).2.2=c):c= -1\/(0<=c/\c<N.length):=by
 have ln:=h.len;rcases h.tree.kids j (Nat.zero_le _) hj c hc with e|⟨k,e,_,k2,_⟩
 · exact .inl e
 · exact .inr ⟨by omega,by omega⟩
theorem fQ.upIs (h:fQ f t N r) {U:List Int} (hU:U.length=N.length): ∀i,i<=N.length-> ∀k,k<N.length->(upL N U i)[k]! =if mS N k<i then (mS N k:Int) else U[k]!
 |0,_,k,_=>by rw [if_neg (Nat.not_lt_zero _)];rfl
 |i+1,hi,k,hk=>by
  have ln:=h.len;have ih:=h.upIs hU i (by omega) k hk
  have p:=h.par (k:=k) (by omega)
  rw [upL,OF _ _ _ _ (by rw [GU,GV];omega),OF _ _ _ _ (by rw [GV];omega),ih]
  by_cases hb:Below N k i
  · have e:=p.2.2 i (by omega) hb
    rw [if_pos (show mS N k<i+1 by omega),<- e]
    rcases hb with q|q
    · by_cases w:(N[i]!).2.2=(k:Int)
      · rw [if_pos w]
      · rw [if_neg w,if_pos q]
    · rw [if_pos q]
  · have n1: ¬(N[i]!).2.1=(k:Int):=fun q=>hb (.inl q)
    have n2: ¬(N[i]!).2.2=(k:Int):=fun q=>hb (.inr q)
    rw [if_neg n2,if_neg n1];have ne:mS N k≠i:=fun q=>by
     by_cases hr:(k:Int)=r
     · have:=p.1 hr;omega
     · have:=(p.2.1 hr).2.1
       rw [q] at this;exact hb this
    by_cases q:mS N k<i
    · rw [if_pos q,if_pos (by omega)]
    · rw [if_neg q,if_neg (by omega)]
def m1S (N:List Nd) (r:Int) (i:Nat) (j:Int) (U:List Int):=((i:Int),N,(N.length:Int),(i:Int),(N[i]!).2.1,(N[i]!).2.2,j,(0:Int),r,N,U)
def m3S (N:List Nd) (r:Int) (i:Nat) (U:List Int):=(N,(N.length:Int),(i:Int),(0:Int),r,N,U)
theorem X3 {U:List Int} {c:Int} (h0:0<=c) (h:c<U.length): ∃x,aQ U c=some x:=⟨_,dJ h0 h⟩
theorem X4 {U:List Int} {c:Int} (h0:0<=c) (x:Int):bY U c x=U.set c.toNat x:=by
 obtain ⟨n,rfl⟩:=Int.eq_ofNat_of_zero_le h0;rw [nD,Int.toNat_natCast]
theorem aH6 (h:fQ f t N r) (hN:N.length<=1000) {i:Nat} (hi:i<N.length) {U:List Int} (hU:U.length=N.length):aI iP (m1S N r i 0 U)=some (.next (m3S N r (i+1) (JF (JF U (N[i]!).2.1 i) (N[i]!).2.2 i))):=by
 have ln:=h.len;have l1:=h.link (j:=i) (by omega) (.inl rfl)
 have l2:=h.link (j:=i) (by omega) (.inr rfl)
 have s1:iP (m1S N r i 0 U)=some (.next (m1S N r i 1 (JF U (N[i]!).2.1 i))):=by
  unfold iP m1S JF;simp only [aO (show (0:Int)<2 by omega),cond_true,beq_self_eq_true,show aA .i64 (0+1)=1 from GE ⟨by omega,by omega⟩]
  by_cases q:0<=(N[i]!).2.1
  · obtain ⟨x,hx⟩:=X3 (U:=U) q (by omega)
    rw [aO q,cond_true,hx,aB,X4 q,if_pos q]
  · rw [aL q,cond_false,if_neg q]
 have s2: ∀V:List Int,V.length=N.length->iP (m1S N r i 1 V)=some (.next (m1S N r i 2 (JF V (N[i]!).2.2 i))):=by
  intro V hV;unfold iP m1S JF;simp only [aO (show (1:Int)<2 by omega),cond_true,show ((1:Int)==0)=false from rfl,cond_false,beq_self_eq_true,show aA .i64 (1+1)=2 from GE ⟨by omega,by omega⟩]
  by_cases q:0<=(N[i]!).2.2
  · obtain ⟨x,hx⟩:=X3 (U:=V) q (by omega)
    rw [aO q,cond_true,hx,aB,X4 q,if_pos q]
  · rw [aL q,cond_false,if_neg q]
 rw [aY s1,aY (s2 _ (by rw [GU];exact hU))]
 refine aK ?_;unfold iP m1S m3S;simp only [aL (show¬(2:Int)<2 by omega),cond_false,aZ (show i<1000000000 by omega)]
theorem VS (h:fQ f t N r) (hN:N.length<=1000):aI kM ((N.length:Int),0,0,r,N,List.replicate N.length 0)=some (⟨r,N⟩,bQ N N.length):=by
 have ln:=h.len;have k4:=cI (body:=kM) (fun i=>((N.length:Int),(i:Int),(0:Int),r,N,List.replicate i (-1)++List.replicate (N.length-i) 0)) N.length (fun i hi=>by
  have ll:(List.replicate i (-1:Int)++List.replicate (N.length-i) 0).length=N.length:=by rw [List.length_append,List.length_replicate,List.length_replicate];omega
  have e:(List.replicate i (-1:Int)++List.replicate (N.length-i) 0).set i (-1)=List.replicate (i+1) (-1)++List.replicate (N.length- (i+1)) 0:=by
   rw [show N.length-i=(N.length- (i+1))+1 by omega,List.replicate_succ,List.set_append_right _ _ (by rw [List.length_replicate];exact Nat.le_refl _),List.length_replicate,Nat.sub_self,List.set_cons_zero,List.replicate_succ',List.append_assoc]
   rfl
  unfold kM;simp only [aO (show (i:Int)<(N.length:Int) by omega),cond_true,aE (List.replicate i (-1:Int)++List.replicate (N.length-i) 0) i (by omega),aB,nD,e,aZ (show i<1000000000 by omega)])
 have e0:List.replicate 0 (-1:Int)++List.replicate (N.length-0) 0=List.replicate N.length 0:=rfl;have e1:List.replicate N.length (-1:Int)++List.replicate (N.length-N.length) 0=List.replicate N.length (-1):=by rw [Nat.sub_self,List.replicate_zero,List.append_nil]
 rw [e0,e1] at k4;rw [show aI kM ((N.length:Int),0,0,r,N,List.replicate N.length 0)=_ from k4];have lU:(List.replicate N.length (-1:Int)).length=N.length:=List.length_replicate ..;have k3:=cI (body:=kL) (fun i=>m3S N r i (upL N (List.replicate N.length (-1)) i)) N.length (fun i hi=>by
  have g:=aE N i hi;unfold kL
  conv=>lhs;unfold m3S
  simp only [aO (show (i:Int)<(N.length:Int) by omega),cond_true,g,aB]
  exact aH6 h hN hi (by rw [GV,lU]))
 have up:=h.upIs lU N.length (Nat.le_refl _);have k2:=cI (body:=kK) (fun i=>(N,(N.length:Int),(i:Int),(0:Int),r,N,upL N (List.replicate N.length (-1)) N.length,bQ N i)) N.length (fun i hi=>by
  have g:=aE N i hi;have gu:=aE (upL N (List.replicate N.length (-1)) N.length) i (by rw [GV,lU];exact hi)
  have el:=pE N i;rw [up i hi] at gu;unfold kK;rw [show bQ N (i+1)=bQ N i++I3 N i from rfl];unfold I3
  by_cases q:mS N i<N.length
  · rw [if_pos q] at gu
    simp only [aO (show (i:Int)<(N.length:Int) by omega),cond_true,g,gu,aB,aO (show (0:Int)<=(mS N i:Int) by omega),aE N (mS N i) q,aZ (show i<1000000000 by omega),if_pos q]
    rw [dK (by rw [List.length_singleton];omega),aB]
  · rw [if_neg q,ZR (-1) hi] at gu
    simp only [aO (show (i:Int)<(N.length:Int) by omega),cond_true,g,gu,aB,aL (show¬(0:Int)<= -1 by omega),cond_false,aZ (show i<1000000000 by omega),if_neg q,List.append_nil])
 have f2:aI kK (N,(N.length:Int),0,0,r,N,upL N (List.replicate N.length (-1)) N.length,[])=some (.done (.done (⟨r,N⟩,bQ N N.length))):=by
  rw [show aI kK (N,(N.length:Int),0,0,r,N,upL N (List.replicate N.length (-1)) N.length,[])=_ from k2];refine aK ?_;unfold kK;simp only [aL (show¬(N.length:Int)<(N.length:Int) by omega),cond_false]
 have f3:aI kL (m3S N r 0 (List.replicate N.length (-1)))=some (.done (⟨r,N⟩,bQ N N.length)):=by
  rw [show aI kL (m3S N r 0 (List.replicate N.length (-1)))=_ from k3];refine aK ?_;unfold kL m3S;simp only [aF,aL (show¬(N.length:Int)<(N.length:Int) by omega),cond_false]
  exact f2
 refine aK ?_;unfold kM;simp only [aF,aL (show¬(N.length:Int)<(N.length:Int) by omega),cond_false]
 exact f3
theorem aH7 (h:fQ f t N r) (hN:N.length<=1000) {i:Nat} (hi:i<N.length):aI pR ((i:Int),0,r,N,bQ N i)=some (.next (((i+1:Nat):Int),r,N,bQ N (i+1))):=by
 have ln:=h.len;have p:=h.par (k:=i) (by omega)
 have el:=pE N i;have g:=aE N i hi;have key:=cI (body:=pR) (fun j=>((i:Int),(j:Int),r,N,bQ N i++(if mS N i<j then [((N[i]!).1,(N[mS N i]!).1)] else []))) N.length (fun j hj=>by
  have gj:=aE N j hj;unfold pR
  by_cases hb:Below N i j
  · have e:=p.2.2 j hj hb
    rw [if_neg (show¬mS N i<j by omega),if_pos (show mS N i<j+1 by omega),List.append_nil]
    have ap:bI (bQ N i) [((N[i]!).1,(N[j]!).1)]=some (bQ N i++[((N[i]!).1,(N[j]!).1)]):=dK (by rw [List.length_singleton];omega)
    by_cases q:(N[j]!).2.1=(i:Int)
    · simp only [aF,aO (show (j:Int)<(N.length:Int) by omega),cond_true,gj,g,aB,fR q,ap,aZ (show j<1000000000 by omega),<- e]
    · have q2:(N[j]!).2.2=(i:Int):=hb.resolve_left q
      simp only [aF,aO (show (j:Int)<(N.length:Int) by omega),cond_true,gj,g,aB,fS q,cond_false,fR q2,ap,aZ (show j<1000000000 by omega),<- e]
  · have ne:mS N i≠j:=fun q=>by
     by_cases hr:(i:Int)=r
     · have:=p.1 hr;omega
     · have:=(p.2.1 hr).2.1
       rw [q] at this;exact hb this
    have n1: ¬(N[j]!).2.1=(i:Int):=fun q=>hb (.inl q)
    have n2: ¬(N[j]!).2.2=(i:Int):=fun q=>hb (.inr q)
    have e:(if mS N i<j+1 then [((N[i]!).1,(N[mS N i]!).1)] else [])=(if mS N i<j then [((N[i]!).1,(N[mS N i]!).1)] else []):=by
     by_cases q:mS N i<j
     · rw [if_pos q,if_pos (by omega)]
     · rw [if_neg q,if_neg (by omega)]
    simp only [aF,aO (show (j:Int)<(N.length:Int) by omega),cond_true,gj,aB,fS n1,fS n2,cond_false,aZ (show j<1000000000 by omega),e])
 have e0:(if mS N i<0 then [((N[i]!).1,(N[mS N i]!).1)] else [])=[]:=if_neg (Nat.not_lt_zero _)
 rw [e0,List.append_nil] at key;rw [show aI pR ((i:Int),0,r,N,bQ N i)=_ from key];refine aK ?_;unfold pR;simp only [aF,aL (show¬(N.length:Int)<(N.length:Int) by omega),cond_false,aZ (show i<1000000000 by omega)]
 rfl
theorem X5 (h:fQ f t N r) (hN:N.length<=1000):CK ⟨r,N⟩=some (bQ N N.length):=by
 have k:=cI (body:=tT) (fun i=>((i:Int),r,N,bQ N i)) N.length (fun i hi=>by
  unfold tT;simp only [aF,aO (show (i:Int)<(N.length:Int) by omega),cond_true]
  exact aH7 h hN hi)
 unfold CK;rw [show aI tT (0,r,N,[])=_ from k];refine aK ?_;unfold tT;simp only [aF,aL (show¬(N.length:Int)<(N.length:Int) by omega),cond_false]
end
end Go.Proofs.YticklbjcnimggaaGreat
namespace Go.Proofs.YticklbjcnimggaaGreat
open Go.Vm Classical
end Go.Proofs.YticklbjcnimggaaGreat
namespace Go.Proofs.YticklbjcnimggaaGreat
open Go.Vm Classical
noncomputable def nX (f:List Pt) (es:List (Int×Int)):Int:=if¬(∀x∈es,fN x) then 8 else if¬es.Nodup then 14 else if¬(∀x∈es,jE f x) then 6 else 0
def rP (c:aJ) (f:List Pt) (es:List (Int×Int)) (i:Nat):=
 (es,es,(es.length:Int),(i:Int),c.now.1,c.now.2,c.field.points,c.certs.next_,c.certs.list,c.agenda.slots.uses,c.agenda.slots.used,c.agenda.slots.free,c.agenda.heap,c.agenda.where_,c.due,f,(0:Int),(0:Int),(0:Int))
theorem MO {c:aJ} (ok:bB c) {f:List Pt} (fok:dC f) {es:List (Int×Int)} (hl:es.length<=1000) {r:aJ×Int} (hr:nX f es=0->tO c ⟨f⟩ es=some r):
 pN c ⟨f⟩ es=some (if nX f es=0 then r else (cW,nX f es)):=by
 have bd:=ok.bd;have ab:=ok.agd.bd;have sl:=ok.agd.so.fl;have sn:=ok.agd.so.n2;have su:=ok.agd.so.ul;have el:decide ((es.length:Int)<(es.length:Int))=false:=aL (by omega)
 have hc:gF c=some 0:=by rw [lA ok.fit,if_pos ok]
 have hf:gE ⟨f⟩=some 0:=by rw [nH];exact congrArg some (nG.2 fok)
 have tw:vS (aJ.mk (c.now.1,c.now.2) (Field.mk c.field.points) (aT.mk c.certs.next_ c.certs.list) (aH.mk (aR.mk c.agenda.slots.uses c.agenda.slots.used c.agenda.slots.free) c.agenda.heap c.agenda.where_) c.due)=some c:=by
  unfold vS;simp only [bA (show c.field.points.length<=1048576 by omega),bA (show c.certs.list.length<=1048576 by omega),bA (show c.due.length<=1048576 by omega),bA (show c.agenda.heap.length<=1048576 by omega),bA (show c.agenda.where_.length<=1048576 by omega),
   bA (show c.agenda.slots.uses.length<=1048576 by omega),bA (show c.agenda.slots.used.length<=1048576 by omega),bA (show c.agenda.slots.free.length<=1048576 by omega),aB]
 have k3: ∀e2:aJ×Int,aI eA (rP c f es 0)=some (.done e2)->aI eB (rP c f es 0)=some (if∀i,i<es.length->fN es[i]! then e2 else (cW,8)):=by
  intro e2 h2;refine P5 (body:=eB) (fun i=>rP c f es i) es.length (fun i=>fN es[i]!) (r:=(cW,8)) (e:=e2) (fun i hi=>?_) ?_
  · have e1:decide ((i:Int)<(es.length:Int))=true:=aO (by omega)
    unfold eB rP fN;simp only [e1,cond_true,aE es i hi,aB,aZ (show i<1000000000 by omega)]
    generalize es[i]! =x
    by_cases a1:x.1<0
    · rw [aO a1];exact ⟨fun _=>rfl,fun h=>by omega⟩
    rw [aL a1]
    by_cases a2:x.2<0
    · rw [aO a2];exact ⟨fun _=>rfl,fun h=>by omega⟩
    rw [aL a2]
    by_cases a3:65535<x.1
    · rw [aO a3];exact ⟨fun _=>rfl,fun h=>by omega⟩
    rw [aL a3]
    by_cases a4:65535<x.2
    · rw [aO a4];exact ⟨fun _=>rfl,fun h=>by omega⟩
    rw [aL a4]
    by_cases a5:x.1=x.2
    · rw [fR a5];exact ⟨fun _=>rfl,fun h=>absurd a5 h.2.2.2.2⟩
    · rw [fS a5];exact ⟨fun h=>absurd ⟨by omega,by omega,by omega,by omega,a5⟩ h,fun _=>rfl⟩
  · unfold eB rP
    simp only [aF,el,cond_false];exact h2
 have k2: ∀e1:aJ×Int,aI fC (rP c f es 0)=some (.done (.done e1))->aI eA (rP c f es 0)=some (.done (if∀i,i<es.length->es[i]!∉es.take i then e1 else (cW,14))):=by
  intro e0 h2
  have:=P5 (body:=eA) (fun i=>rP c f es i) es.length (fun i=>es[i]!∉es.take i) (r:= .done (cW,14)) (e:= .done e0) (fun i hi=>by
   have e1:decide ((i:Int)<(es.length:Int))=true:=aO (by omega)
   unfold eA rP;simp only [e1,cond_true,aE es i hi,nV es i (by omega),aB,oL _ _ (show (es.take i).length<=1000000 by rw [List.length_take];omega),aZ (show i<1000000000 by omega)]
   by_cases h:es[i]!∈es.take i
   · rw [aO h];exact ⟨fun _=>rfl,fun k=>absurd h k⟩
   · rw [aL h];exact ⟨fun k=>absurd h k,fun _=>rfl⟩) (by
   unfold eA rP;simp only [aF,el,cond_false];exact h2)
  refine this.trans ?_
  by_cases hb: ∀i,i<es.length->es[i]!∉es.take i
  · rw [if_pos hb,if_pos hb]
  · rw [if_neg hb,if_neg hb]
 have step1: ∀i,i<es.length->(¬jE f es[i]!->fC (rP c f es i)=some (.done (.done (.done (cW,6)))))/\(jE f es[i]!->fC (rP c f es i)=some (.next (rP c f es (i+1)))):=by
  intro i hi;have e1:decide ((i:Int)<(es.length:Int))=true:=aO (by omega)
  obtain ⟨p,e,a1,a2⟩:=EB fok (es[i]!).1;obtain ⟨q,g,b1,b2⟩:=EB fok (es[i]!).2;unfold fC rP jE;simp only [e1,cond_true,aE es i hi,aB,a1,b1,aZ (show i<1000000000 by omega)]
  by_cases h1:BM f (es[i]!).1
  · rw [bX (a2.2 h1)]
    by_cases h2:BM f (es[i]!).2
    · rw [bX (b2.2 h2)]
      exact ⟨fun h=>absurd ⟨h1,h2⟩ h,fun _=>rfl⟩
    · rw [eU (fun h=>h2 (b2.1 h))]
      exact ⟨fun _=>rfl,fun h=>absurd h.2 h2⟩
  · rw [eU (fun h=>h1 (a2.1 h))]
    exact ⟨fun _=>rfl,fun h=>absurd h.1 h1⟩
 have start:pN c ⟨f⟩ es=aI eB (rP c f es 0):=by
  unfold pN;simp only [hc,aB,show ((0:Int) !=0)=false from rfl,cond_false,hf];rfl
 rw [start]
 by_cases h1: ∀x∈es,fN x
 case neg=>
  have er:nX f es=8:=by unfold nX;rw [if_pos h1]
  rw [er,if_neg (by omega)]
  have:=dB (body:=eB) (fun i=>rP c f es i) es.length (fun i=> ¬fN es[i]!) (r:=(cW,8)) (e:=r)
  have k3':=k3;rw [GS (P:=fN)] at h1;obtain ⟨i,h⟩:=Classical.not_forall.1 h1;obtain ⟨hi,hx⟩:=Classical.not_imp.1 h;obtain ⟨m,m1,m2,m3⟩:=GF (c:=fun i=> ¬fN es[i]!) ⟨i,hi,hx⟩
  have go: ∀j,j<es.length->(¬fN es[j]!->eB (rP c f es j)=some (.done (cW,8)))/\(fN es[j]!->eB (rP c f es j)=some (.next (rP c f es (j+1)))):=by
   intro j hj;have e1:decide ((j:Int)<(es.length:Int))=true:=aO (by omega)
   unfold eB rP fN;simp only [e1,cond_true,aE es j hj,aB,aZ (show j<1000000000 by omega)]
   generalize es[j]! =x
   by_cases a1:x.1<0
   · rw [aO a1];exact ⟨fun _=>rfl,fun h=>by omega⟩
   rw [aL a1]
   by_cases a2:x.2<0
   · rw [aO a2];exact ⟨fun _=>rfl,fun h=>by omega⟩
   rw [aL a2]
   by_cases a3:65535<x.1
   · rw [aO a3];exact ⟨fun _=>rfl,fun h=>by omega⟩
   rw [aL a3]
   by_cases a4:65535<x.2
   · rw [aO a4];exact ⟨fun _=>rfl,fun h=>by omega⟩
   rw [aL a4]
   by_cases a5:x.1=x.2
   · rw [fR a5];exact ⟨fun _=>rfl,fun h=>absurd a5 h.2.2.2.2⟩
   · rw [fS a5];exact ⟨fun h=>absurd ⟨by omega,by omega,by omega,by omega,a5⟩ h,fun _=>rfl⟩
  rw [cI (body:=eB) (fun i=>rP c f es i) m fun j hj=>(go j (by omega)).2 (Classical.not_not.1 (m3 j hj))]
  exact aK ((go m m1).1 m2)
 have h1':=(GS (P:=fN)).1 h1
 by_cases h2:es.Nodup
 case neg=>
  have er:nX f es=14:=by unfold nX;rw [if_neg (Classical.not_not.2 h1),if_pos h2]
  rw [er,if_neg (by omega)]
  have h2':=h2;rw [MN] at h2';obtain ⟨i,h⟩:=Classical.not_forall.1 h2';obtain ⟨hi,hx⟩:=Classical.not_imp.1 h;obtain ⟨m,m1,m2,m3⟩:=GF (c:=fun i=> ¬es[i]!∉es.take i) ⟨i,hi,hx⟩
  have go: ∀j,j<es.length->(es[j]!∈es.take j->eA (rP c f es j)=some (.done (.done (cW,14))))/\(es[j]!∉es.take j->eA (rP c f es j)=some (.next (rP c f es (j+1)))):=by
   intro j hj;have e1:decide ((j:Int)<(es.length:Int))=true:=aO (by omega)
   unfold eA rP;simp only [e1,cond_true,aE es j hj,nV es j (by omega),aB,oL _ _ (show (es.take j).length<=1000000 by rw [List.length_take];omega),aZ (show j<1000000000 by omega)]
   by_cases h:es[j]!∈es.take j
   · rw [aO h];exact ⟨fun _=>rfl,fun k=>absurd h k⟩
   · rw [aL h];exact ⟨fun k=>absurd k h,fun _=>rfl⟩
  have l2:aI eA (rP c f es 0)=some (.done (cW,14)):=by
   rw [cI (body:=eA) (fun i=>rP c f es i) m fun j hj=>(go j (by omega)).2 (Classical.not_not.1 (m3 j hj))]
   exact aK ((go m m1).1 (Classical.not_not.1 m2))
  rw [k3 _ l2,if_pos h1']
 have h2':=MN.1 h2
 by_cases h3: ∀x∈es,jE f x
 case neg=>
  have er:nX f es=6:=by unfold nX;rw [if_neg (Classical.not_not.2 h1),if_neg (Classical.not_not.2 h2),if_pos h3]
  rw [er,if_neg (by omega)]
  have h3':=h3;rw [GS (P:=jE f)] at h3';obtain ⟨i,h⟩:=Classical.not_forall.1 h3';obtain ⟨hi,hx⟩:=Classical.not_imp.1 h;obtain ⟨m,m1,m2,m3⟩:=GF (c:=fun i=> ¬jE f es[i]!) ⟨i,hi,hx⟩
  have l1:aI fC (rP c f es 0)=some (.done (.done (cW,6))):=by
   rw [cI (body:=fC) (fun i=>rP c f es i) m fun j hj=>(step1 j (by omega)).2 (Classical.not_not.1 (m3 j hj))]
   exact aK ((step1 m m1).1 m2)
  rw [k3 _ (k2 _ l1),if_pos h1',if_pos h2']
 have h3':=(GS (P:=jE f)).1 h3;have er:nX f es=0:=by unfold nX;rw [if_neg (Classical.not_not.2 h1),if_neg (Classical.not_not.2 h2),if_neg (Classical.not_not.2 h3)]
 rw [er,if_pos rfl];have l1:aI fC (rP c f es 0)=some (.done (.done r)):=by
  rw [cI (body:=fC) (fun i=>rP c f es i) es.length fun j hj=>(step1 j hj).2 (h3' j hj)]
  refine aK ?_;unfold fC rP;simp only [el,cond_false,tw,aB,hr er]
 rw [k3 _ (k2 _ l1),if_pos h1',if_pos h2']
end Go.Proofs.YticklbjcnimggaaGreat
namespace Go.Proofs.YticklbjcnimggaaGreat
open Go.Vm Classical
theorem P7 {f:List Pt} (fok:dC f) {t:Int×Int} (r:bP t) (r64:nT t): ∃(root:Int) (N:List Nd),lI ⟨f⟩ t=some (⟨root,N⟩,bQ N f.length)/\fQ f t N root:=by
 have f1:=fok.1;obtain ⟨root,N,h1,h2⟩:=aH4 fok r r64;have ln:=h2.len;have mk:IL (N.length:Int) (0:Int)=some (List.replicate N.length 0):=by
  unfold IL;rw [if_pos ⟨by omega,by omega⟩,Int.toNat_natCast]
 refine ⟨root,N,?_,h2⟩;unfold lI;simp only [h1,aB,aF,beq_self_eq_true,cond_true,mk,List.length_replicate];rw [<- ln];exact VS h2 (by omega)
theorem VT:qH=iR:=rfl
theorem X6 (r r':Int) (a b:List Nd) (hl:a.length<=1000000):pQ ⟨r,a⟩ ⟨r',b⟩=some (decide (r=r'/\a=b)):=by
 unfold pQ;simp only [aF]
 by_cases h0:r=r'
 case neg=>rw [eU h0,cond_true,aL (fun h=>h0 h.1)]
 rw [bX h0,cond_false]
 by_cases h:a.length=b.length
 case neg=>rw [eU (by omega),cond_true,aL (fun q=>h (by rw [q.2]))]
 rw [bX (by omega),cond_false]
 have key:=P5 (body:=qQ) (fun i=>((i:Int),r,a,r',b)) a.length (fun i=>a[i]! =b[i]!) (r:=false) (e:=true) (fun i hi=>by
  unfold qQ;simp only [aF,aO (show (i:Int)<(a.length:Int) by omega),cond_true,aE a i hi,aE b i (by omega),aB,aZ (show i<1000000000 by omega)]
  rw [VJ]
  by_cases q:a[i]! =b[i]!
  · rw [aO q];exact ⟨fun w=>absurd q w,fun _=>rfl⟩
  · rw [aL q];exact ⟨fun _=>rfl,fun w=>absurd w q⟩) (by
  unfold qQ;simp only [aF,aL (show¬(a.length:Int)<(a.length:Int) by omega),cond_false])
 refine (show _=_ from key).trans ?_
 by_cases q:a=b
 · rw [if_pos (fun i _=>by rw [q]),aO ⟨h0,q⟩]
 · rw [if_neg (fun w=>q (CL h w)),aL (fun w=>q w.2)]
theorem aH8 (c:aJ) (es:List (Int×Int)) (h1:es.length<=1000000) (h2:c.certs.list.length<=1000000):
 tL c es=some (decide (es.length=c.certs.list.length/\ ∀i,i<c.certs.list.length->(c.certs.list[i]!).2∈es)):=by
 unfold tL dU eN;simp only [aF]
 by_cases h0:es.length=c.certs.list.length
 case neg=>rw [fS (by omega),cond_false,aL (fun q=>h0 q.1)]
 rw [fR (by omega),cond_true]
 have key:=lL (body:=bM) (fun i=>(c.certs.list,es,(c.certs.list.length:Int),(i:Int))) c.certs.list.length (fun i=>(c.certs.list[i]!).2∉es) (fun i=>(i:Int)) (e:= -1) (fun i hi=>by
  unfold bM xW;simp only [aO (show (i:Int)<(c.certs.list.length:Int) by omega),cond_true,aE c.certs.list i hi,aB,oL es _ h1,aZ (show i<1000000000 by omega)]
  refine ⟨fun q=>?_,fun q=>?_⟩
  · rw [aL q];rfl
  · rw [aO (Classical.not_not.1 q)];rfl) (by
  unfold bM;simp only [aL (show¬(c.certs.list.length:Int)<(c.certs.list.length:Int) by omega),cond_false])
 by_cases hx: ∀i,i<c.certs.list.length->(c.certs.list[i]!).2∈es
 · rw [show aI bM (c.certs.list,es,(c.certs.list.length:Int),0)=_ from key.2 (fun i hi=>Classical.not_not.2 (hx i hi)),aB,aB,aL (by omega),aO ⟨h0,hx⟩]
   rfl
 · obtain ⟨i,hi⟩:=Classical.not_forall.1 hx
   obtain ⟨hi,hn⟩:=Classical.not_imp.1 hi;obtain ⟨m,m1,m2,m3⟩:=GF (c:=fun i=>(c.certs.list[i]!).2∉es) ⟨i,hi,hn⟩
   rw [show aI bM (c.certs.list,es,(c.certs.list.length:Int),0)=_ from key.1 m m1 m2 m3,aB,aB,aO (by omega),aL (fun w=>hx w.2)]
   rfl
structure oM (k:cE):Prop where
 clk:bB k.clock
 tree:fQ k.clock.field.points k.clock.now k.tree.nodes k.tree.root
 cert:(k.clock.certs.list.map fun x=>x.2).Perm (bQ k.tree.nodes k.clock.field.points.length)
theorem JG {c:aJ} (ok:bB c) {N:List Nd} {r:Int} (tr:fQ c.field.points c.now N r):
 ((bQ N c.field.points.length).length=c.certs.list.length/\ ∀i,i<c.certs.list.length->(c.certs.list[i]!).2∈bQ N c.field.points.length)↔(c.certs.list.map fun x=>x.2).Perm (bQ N c.field.points.length):=by
 have cl:(c.certs.list.map fun x=>x.2).length=c.certs.list.length:=List.length_map ..
 constructor
 · rintro ⟨h1,h2⟩
   refine E6 (TC ok.crt) (fun x hx=>?_) (by omega)
   obtain ⟨i,hi,rfl⟩:=CV.2 hx;exact h2 i hi
 · intro h
   exact ⟨by rw [<- h.length_eq,cl],fun i hi=>h.mem_iff.1 (CV.1 ⟨i,hi,rfl⟩)⟩
theorem P8 {c:aJ} (ok:bB c) {N:List Nd} {r:Int} (tr:fQ c.field.points c.now N r):
 (c.certs.list.length=(bQ N c.field.points.length).length/\ ∀i,i<(bQ N c.field.points.length).length->sB c.certs.list (bQ N c.field.points.length)[i]!/\fF (mQ c.field.points ((bQ N c.field.points.length)[i]!).2) (mQ c.field.points ((bQ N c.field.points.length)[i]!).1) c.now)↔(c.certs.list.map fun x=>x.2).Perm (bQ N c.field.points.length):=by
 have cl:(c.certs.list.map fun x=>x.2).length=c.certs.list.length:=List.length_map ..
 obtain ⟨_,nd,ld⟩:=tr.edges ok.fld;constructor
 · rintro ⟨h1,h2⟩
   refine (E6 nd (fun x hx=>?_) (by omega)).symm
   obtain ⟨i,hi,rfl⟩:=bE.1 hx;exact CV.1 (h2 i hi).1
 · intro h
   exact ⟨by rw [<- h.length_eq,cl],fun i hi=>⟨CV.2 (h.mem_iff.2 (bF hi)),ld _ (bF hi)⟩⟩
theorem JH {k:cE} (fit:wF k.clock):uQ k=some (if oM k then 0 else 8):=by
 unfold uQ;rw [lA fit,aB]
 by_cases ok:bB k.clock
 case neg=>rw [if_neg ok,if_neg (fun h=>ok h.clk)];rfl
 rw [if_pos ok,bX rfl,cond_false];have bd:=ok.bd;obtain ⟨r,N,h1,h2⟩:=P7 ok.fld ok.nowv ok.now64;have h1:lI k.clock.field k.clock.now=some (⟨r,N⟩,bQ N k.clock.field.points.length):=h1;have same: ∀h:oM k,N=k.tree.nodes/\r=k.tree.root:=fun h=>h2.same ok.fld.2.2 h.tree
 rw [h1,aB]
 by_cases hr:r=k.tree.root
 case neg=>rw [eU hr,cond_true,if_neg (fun h=>hr (same h).2)]
 have ln:=h2.len;rw [bX hr,cond_false,VT,GR N k.tree.nodes (by omega),aB]
 by_cases hn:N=k.tree.nodes
 case neg=>rw [aL hn,if_neg (fun h=>hn (same h).1)];rfl
 have el:=pE N k.clock.field.points.length;rw [aO hn,Bool.not_true,cond_false];show (tL k.clock (bQ N k.clock.field.points.length)).bind _=_;rw [aH8 k.clock _ (by omega) (by omega),aB]
 have iff:=JG ok h2
 by_cases hj:(bQ N k.clock.field.points.length).length=k.clock.certs.list.length/\ ∀i,i<k.clock.certs.list.length->(k.clock.certs.list[i]!).2∈bQ N k.clock.field.points.length
 · rw [aO hj,if_pos (show oM k from ⟨ok,by rw [<- hn,<- hr];exact h2,by rw [<- hn];exact iff.1 hj⟩)];rfl
 · rw [aL hj,if_neg (fun h:oM k=>hj (iff.2 (by rw [hn];exact h.cert)))];rfl
theorem MP {k:cE} (fit:wF k.clock):tU k=some (if oM k then 0 else 8):=by
 unfold tU;rw [ML fit,aB]
 by_cases ok:bB k.clock
 case neg=>rw [if_neg ok,if_neg (fun h=>ok h.clk)];rfl
 rw [if_pos ok,bX rfl,cond_false];have bd:=ok.bd;obtain ⟨r,N,h1,h2⟩:=OE ok.fld (t:=k.clock.now) ok.now64;have h1:rW k.clock.field k.clock.now=some ⟨r,N⟩:=h1;have same: ∀h:oM k,N=k.tree.nodes/\r=k.tree.root:=fun h=>h2.same ok.fld.2.2 h.tree
 have ln:=h2.len;have keta:k.tree=⟨k.tree.root,k.tree.nodes⟩:=rfl;rw [h1,aB,keta,X6 _ _ _ _ (by omega),aB]
 by_cases hn:r=k.tree.root/\N=k.tree.nodes
 case neg=>rw [aL hn,if_neg (fun h:oM k=>hn ⟨(same h).2,(same h).1⟩)];rfl
 have el:=pE N k.clock.field.points.length;obtain ⟨eok,_,_⟩:=h2.edges ok.fld;rw [aO hn,Bool.not_true,cond_false,X5 h2 (by omega),aB,ln,aH1 ok _ eok.kn,aB]
 have iff:=P8 ok h2
 by_cases hj:k.clock.certs.list.length=(bQ N k.clock.field.points.length).length/\ ∀i,i<(bQ N k.clock.field.points.length).length->sB k.clock.certs.list (bQ N k.clock.field.points.length)[i]!/\fF (mQ k.clock.field.points ((bQ N k.clock.field.points.length)[i]!).2) (mQ k.clock.field.points ((bQ N k.clock.field.points.length)[i]!).1) k.clock.now
 · rw [aO hj,if_pos (show oM k from ⟨ok,by rw [<- hn.1,<- hn.2];exact h2,by rw [<- hn.2];exact iff.1 hj⟩)];rfl
 · rw [aL hj,if_neg (fun h:oM k=>hj (iff.2 (by rw [hn.2];exact h.cert)))];rfl
structure IE (k:cE):Prop where
 c:OC k.clock
 n:k.tree.nodes.length<=1000
theorem CW:IE ⟨cW,⟨0,[]⟩⟩:=⟨M2,Nat.zero_le _⟩
theorem I4 {k:cE} (h:IE k):vY k k=some true:=by
 have hn:=h.n;unfold vY;rw [VM h.c,aB,cond_true,show pQ k.tree k.tree=_ from X6 k.tree.root k.tree.root k.tree.nodes k.tree.nodes (by omega),aB,aO ⟨rfl,rfl⟩]
theorem I5 {k:cE} (h:IE k):pA k=some k:=by
 have hn:=h.n;unfold pA AH;rw [VN h.c,aB,bA (by omega),aB,aB]
theorem P9 (k:cE):tJ k=some true\/(tJ k=some false/\IE k):=by
 unfold tJ CE
 rcases TB k.clock with e|⟨e,sh⟩
 · rw [e];exact .inl rfl
 rw [e,aB,cond_false,aB,aF]
 by_cases h:70<k.tree.nodes.length
 · rw [aO (by omega)];exact .inl rfl
 · rw [aL (by omega)];exact .inr ⟨rfl,sh,by omega⟩
theorem VU {c:aJ} (ok:bB c) {f:List Pt} (fok:dC f) {N:List Nd} {r:Int} (tr:fQ f c.now N r):
 ∃R:aJ×Int,pN c ⟨f⟩ (bQ N f.length)=some R/\mK c ⟨f⟩ (bQ N f.length)=some R/\(R.2=0/\S7 c f (bQ N f.length) R.1\/R=(cW,18)):=by
 have f1:=fok.1;obtain ⟨eok,nd,_⟩:=tr.edges fok;have el:=pE N f.length;obtain ⟨R,r1,r2,r3⟩:=aHZ ok fok eok;have ee:nX f (bQ N f.length)=0:=by
  unfold nX;rw [if_neg (Classical.not_not.2 eok.cv),if_neg (Classical.not_not.2 nd),if_neg (fun h=>h eok.kn)]
 have rn:=MO ok fok (es:=bQ N f.length) (by omega) (fun _=>r1)
 rw [if_pos ee] at rn;exact ⟨R,rn,r2,r3⟩
end Go.Proofs.YticklbjcnimggaaGreat
namespace Go.Proofs.YticklbjcnimggaaGreat
open Go.Vm Classical
end Go.Proofs.YticklbjcnimggaaGreat
namespace Go.Proofs.YticklbjcnimggaaGreat
open Go.Vm Classical
def ZS (c:aJ) (to:Int×Int):Prop:=0<c.agenda.heap.length/\oJ (Ev.at c.agenda.heap[0]!) to<=0
theorem MQ {c:aJ} (ok:bB c) {to:Int×Int} (rt:bP to) (r64:nT to) (le: ¬oJ to c.now<0):tM c to=some (decide (ZS c to),0):=by
 unfold tM;rw [lA ok.fit,if_pos ok,aB,dL r64,if_pos rt,aB,bX (by decide),cond_false,HS r64 ok.now64,if_pos ⟨rt,ok.nowv⟩,aB,aL le,cond_false]
 unfold EY;rw [jH _ ok.fit.ag,if_pos ok.agd,aB,bX rfl,cond_false]
 by_cases h:0<c.agenda.heap.length
 · have ev:=ok.agd.ev 0 h
   have g:=aE c.agenda.heap 0 h;rw [show ((0:Nat):Int)=0 from rfl] at g;rw [fS (by rw [aF];omega),cond_false,g,aB,aB,bX rfl,cond_false,HS ev.2.1 r64,if_pos ⟨ev.1,rt⟩,aB]
   congr 2
   by_cases h2:oJ (Ev.at c.agenda.heap[0]!) to<=0
   · rw [aO (show ZS c to from ⟨h,h2⟩),aO h2]
   · rw [aL (fun k:ZS c to=>h2 k.2),aL h2]
 · rw [fR (by rw [aF];omega),cond_true,aB,aL (fun k:ZS c to=>h k.1)]
   rfl
theorem MR {c:aJ} (ok:bB c) {to:Int×Int} (r64:nT to):xD c to=some (decide (ZS c to)):=by
 unfold xD;simp only [aF]
 by_cases h:0<c.agenda.heap.length
 · have ev:=ok.agd.ev 0 h
   have g:=aE c.agenda.heap 0 h;rw [show ((0:Nat):Int)=0 from rfl] at g;rw [aO (by omega),cond_true,g,aB,wB ev.2.1 r64,aB]
   congr 1
   by_cases h2:oJ (Ev.at c.agenda.heap[0]!) to<=0
   · rw [aO (show ZS c to from ⟨h,h2⟩),aO h2]
   · rw [aL (fun k:ZS c to=>h2 k.2),aL h2]
 · rw [aL (by omega),cond_false,aL (fun k:ZS c to=>h k.1)]
theorem TG {c:aT} (ok:eJ c) {i:Nat} (hi:i<c.list.length):LR c (c.list[i]!).1=some (i:Int):=by
 have hl:=ok.len;have k:=lL (body:=xE) (fun j=>((c.list[i]!).1,(j:Int),c.next_,c.list)) c.list.length (fun j=>(c.list[j]!).1=(c.list[i]!).1) (fun j=>(j:Int)) (e:= -1) (fun j hj=>by
  unfold xE;simp only [aF,aO (show (j:Int)<(c.list.length:Int) by omega),cond_true,aE c.list j hj,aB,aZ (show j<1000000000 by omega)]
  refine ⟨fun h=>?_,fun h=>?_⟩
  · rw [fR h];rfl
  · rw [fS h];rfl) (by
  unfold xE;simp only [aF,aL (show¬(c.list.length:Int)<(c.list.length:Int) by omega),cond_false])
 exact k.1 i hi rfl fun j hj e=>by have:=ok.up j i hj hi;omega
abbrev atT (c:aJ) (t:Int×Int):aJ:=⟨t,c.field,c.certs,c.agenda,c.due⟩
theorem aB0 {c:aJ} (ok:bB c) {to:Int×Int} (rt:bP to) (r64:nT to) (le: ¬oJ to c.now<0) (due:ZS c to):
 ∃(x:Int×Int) (c1:aJ),rR c to=some (c1,c.agenda.heap[0]!,x,0)/\uV c=some (c1,c.agenda.heap[0]!,x)/\bB c1/\c1.field=c.field/\jE c.field.points x/\nY c1=nY c+1/\c1.now=Ev.at c.agenda.heap[0]!:=by
 obtain ⟨i,c',hi,num,r1,r2,ok1,hf,hc,_⟩:=VP ok due.1;have g:=aE c.agenda.heap 0 due.1;rw [show ((0:Nat):Int)=0 from rfl] at g;have hcl:c'.certs.list.length=c.certs.list.length-1:=by
  rw [hc];exact List.length_eraseIdx_of_lt hi
 have hcn:c'.certs.next_=c.certs.next_:=by rw [hc];rfl
 refine ⟨(c.certs.list[i]!).2,atT c' (Ev.at c.agenda.heap[0]!),?_,?_,ok1,hf,ok.known i hi,?_,rfl⟩
 · unfold rR
   rw [MQ ok rt r64 le,aB,fR rfl,cond_true,aO due,Bool.not_true,cond_false,bX rfl,cond_false,g,aB,r1,aB,bX rfl,cond_false]
 · unfold uV
   rw [g,aB,show (c.agenda.heap[0]!).2.2.1=(c.certs.list[i]!).1 from num.symm,TG ok.crt hi,aB,aE c.certs.list i hi,aB,num,r2,aB]
 · unfold nY
   show c'.certs.next_- (c'.certs.list.length:Int)=_;rw [hcl,hcn];omega
theorem aB1 {c:aJ} (ok:bB c) {to:Int×Int} (rt:bP to) (r64:nT to) (le: ¬oJ to c.now<0) (due: ¬ZS c to):rR c to=some (cW,(0,0,0,0,0),(0,0),6):=by
 unfold rR;rw [MQ ok rt r64 le,aB,fR rfl,cond_true,aL due];rfl
theorem aH9 {c:aJ} (ok:bB c) {to:Int×Int} (rt:bP to) (r64:nT to) (le: ¬oJ to c.now<0) (due: ¬ZS c to):AP c to=some (atT c to,0):=by
 unfold AP;rw [MQ ok rt r64 le,aB,fR rfl,cond_true,aL due,cond_false,bX rfl,cond_false,jZ ok,aB]
theorem aB2 {c:aJ} (ok:bB c) (to:Int×Int):xH c to=some (atT c to):=by
 unfold xH;rw [iJ ok,aB]
theorem QA {c:aJ} (ok:bB c): -200<=nY c/\nY c<=1000000:=by
 have h1:=ok.crt.len;have h2:=ok.crt.n0;have h3:=ok.crt.n1;unfold nY;omega
end Go.Proofs.YticklbjcnimggaaGreat
namespace Go.Proofs.YticklbjcnimggaaGreat
open Go.Vm Classical
theorem aIa {h l:Pt} {t t':Int×Int} (hh:gI h) (hl:gI l) (r:bP t) (r':bP t') (le:t.1*t'.2<=t'.1*t.2) (nf:(mE h l t).2=true->t'.1*(mE h l t).1.2<(mE h l t).1.1*t'.2): ¬fF l h t':=by
 unfold mE at nf
 by_cases h1:fF l h t
 · rw [if_pos h1] at nf
   have:=nf rfl
   dsimp only at this;omega
 · rw [if_neg h1] at nf
   by_cases h2:h.2.2<l.2.2
   · rw [if_pos h2] at nf
     obtain ⟨_,m1,m2,m3⟩:=HT hh hl (show h.2.2≠l.2.2 by omega)
     have up:=nf rfl;dsimp only at up;intro h3;have g:0<=LV l h t':=by rcases h3 with k|k<;>omega
     rw [GT] at g;generalize ZI h l=m at*;have d:=m1.1;have hB:0<l.2.2-h.2.2:=by omega
     generalize l.2.2-h.2.2=B at*;generalize hA:h.2.1-l.2.1=A at*;have g2:A*t'.2<=B*t'.1:=by
      have:(l.2.1-h.2.1)*t'.2= -(A*t'.2):=by rw [<- Int.neg_mul];congr 1;omega
      omega
     have g3:m.1*t'.2*B<=t'.1*m.2*B:=by
      have e1:m.1*t'.2*B=A*t'.2*m.2:=by rw [Int.mul_right_comm,m3,Int.mul_right_comm]
      have e2:t'.1*m.2*B=B*t'.1*m.2:=by rw [Int.mul_right_comm,Int.mul_comm t'.1 B]
      rw [e1,e2];exact Int.mul_le_mul_of_nonneg_right g2 (by omega)
     have g4:m.1*t'.2<=t'.1*m.2:=Int.le_of_mul_le_mul_right g3 hB;omega
   · exact I1 r.1 r'.1 le h2 h1
theorem VV {c:aJ} (ok:bB c) {N:List Nd} {r:Int} (tr:fQ c.field.points c.now N r) (ct: ∀e∈bQ N c.field.points.length,sB c.certs.list e) {to:Int×Int} (rt:bP to) (le: ¬oJ to c.now<0) (due: ¬ZS c to):fQ c.field.points to N r:=by
 have ln:=tr.len;refine ⟨tr.len,tr.ids,tr.tree.other (JV ok.fld.2.2 to) (Nat.le_refl _) fun k j _ hk _ hj hb=>?_⟩
 have hbl:Below N j k:=hb;have hp:=tr.par hj;have hr:(j:Int)≠r:=fun q=>by
  have e:=hp.1 q
  have:=hp.2.2 k (by omega) hbl
  omega
 obtain ⟨p1,p2,p3,_⟩:=hp.2.1 hr;have ek:=hp.2.2 k (by omega) hbl
 have mem:((c.field.points[j]!).1,(c.field.points[k]!).1)∈bQ N c.field.points.length:=A5.2 ⟨j,hj,p1,by rw [<- ek,tr.ids j hj,tr.ids k hk]⟩
 obtain ⟨w,w1,w2⟩:=ct _ mem;have hk':=ok.fld.2.1 _ (bF hk);have hj':=ok.fld.2.1 _ (bF hj);have wn:bG c.field.points (c.certs.list[w]!).2 c.now=mE c.field.points[k]! c.field.points[j]! c.now:=by
  unfold bG;rw [w2,A4 ok.fld.2.2 hk rfl,A4 ok.fld.2.2 hj rfl]
 have nl: ¬fF c.field.points[j]! c.field.points[k]! to:=by
  refine aIa hk' hj' ok.nowv rt (by rw [DJ] at le;omega) fun is=>?_
  rw [<- wn] at is;obtain ⟨d,hd,_,ev⟩:=ok.fol.has _ (bF w1) is;obtain ⟨v,hv,he⟩:=bE.1 ev;have tl:=OD ok.agd v hv;have h0:0<c.agenda.heap.length:=by omega
  have e0:=(ok.agd.ev 0 h0).1.1;have ev':=(ok.agd.ev v hv).1.1;rw [he] at tl ev';rw [<- wn];have n1: ¬oJ (bG c.field.points (c.certs.list[w]!).2 c.now).1 (Ev.at c.agenda.heap[0]!)<0:=fun q=>tl (.inl q)
  rw [DJ] at n1;have n2: ¬oJ (Ev.at c.agenda.heap[0]!) to<=0:=fun q=>due ⟨h0,q⟩
  have n3:to.1*(Ev.at c.agenda.heap[0]!).2<(Ev.at c.agenda.heap[0]!).1*to.2:=by
   unfold oJ at n2;rcases eQ ((Ev.at c.agenda.heap[0]!).1*to.2) (to.1*(Ev.at c.agenda.heap[0]!).2) with ⟨a,b⟩|⟨a,b⟩|⟨a,b⟩<;>omega
  exact D7 rt.1 e0 ev' n3 (Int.not_lt.1 n1)
 exact I2 to (fun e=>p3 (by rw [<- ek];exact rY ok.fld.2.2 hk hj e.symm)) nl
end Go.Proofs.YticklbjcnimggaaGreat
namespace Go.Proofs.YticklbjcnimggaaGreat
open Go.Vm Classical
structure aSF (c:aJ) (f:List Pt) (k:cE):Prop where
 ren:S7 c f (bQ k.tree.nodes f.length) k.clock
 tree:fQ f c.now k.tree.nodes k.tree.root
theorem DP {c:aJ} (ok:bB c) {f:List Pt} (fok:dC f):
 ∃R:cE×Int,kO c ⟨f⟩=some R/\mL c ⟨f⟩=some R/\(R.2=0/\aSF c f R.1\/R=(⟨cW,⟨0,[]⟩⟩,18)):=by
 have f1:=fok.1;obtain ⟨r,N,h1,h2⟩:=P7 fok ok.nowv ok.now64;obtain ⟨r',N',g1,g2⟩:=OE fok (t:=c.now) ok.now64;obtain ⟨e1,e2⟩:=g2.same fok.2.2 h2;subst e1 e2;have ln:=h2.len;obtain ⟨R,r1,r2,r3⟩:=VU ok fok h2;have eo:=X5 h2 (by omega)
 rw [ln] at eo;rcases r3 with ⟨q0,qq⟩|he
 · refine ⟨(⟨R.1,⟨r',N'⟩⟩,0),?_,?_,.inl ⟨rfl,qq,h2⟩⟩
   · unfold kO
     simp only [h1,aB,r1,q0,show ((0:Int) !=0)=false from rfl,cond_false]
   · unfold mL
     simp only [g1,aB,eo,r2,q0,show ((0:Int) !=0)=false from rfl,cond_false]
 · refine ⟨(⟨cW,⟨0,[]⟩⟩,18),?_,?_,.inr rfl⟩
   · unfold kO
     simp only [h1,aB,r1,he,show ((18:Int) !=0)=true from rfl,cond_true]
   · unfold mL
     simp only [g1,aB,eo,r2,he,show ((18:Int) !=0)=true from rfl,cond_true]
def hP (c:aJ) (r:Int) (N:List Nd) (to:Int×Int) (out:List (Int×Int)):=
 (c.now.1,c.now.2,c.field.points,c.certs.next_,c.certs.list,c.agenda.slots.uses,c.agenda.slots.used,c.agenda.slots.free,c.agenda.heap,c.agenda.where_,c.due,r,N,to.1,to.2,(0:Int),(0:Int),(0:Int),(0:Int),out)
def hR (c:aJ) (r:Int) (N:List Nd) (to:Int×Int) (out:List (Int×Int)):=
 (to.1,to.2,(0:Int),(0:Int),(0:Int),(0:Int),c.now.1,c.now.2,c.field.points,c.certs.next_,c.certs.list,c.agenda.slots.uses,c.agenda.slots.used,c.agenda.slots.free,c.agenda.heap,c.agenda.where_,c.due,r,N,out)
structure MS (r:cE×List (Int×Int)×Int):Prop where
 h:IE r.1
 l:r.2.1.length<=1048576
theorem I6 {to:Int×Int} (rt:bP to) (r64:nT to) (d:Int)
 (ih: ∀(c:aJ) (r:Int) (N:List Nd) (out:List (Int×Int)),1000000-nY c<d->bB c->fQ c.field.points c.now N r->(∀e∈bQ N c.field.points.length,sB c.certs.list e)-> ¬oJ to c.now<0->(out.length:Int)<=nY c+200->
  ∃R:cE×List (Int×Int)×Int,aI eT (hP c r N to out)=some R/\aI gP (hR c r N to out)=some R/\MS R)
 (c:aJ) (r:Int) (N:List Nd) (out:List (Int×Int)) (hd:1000000-nY c<=d) (ok:bB c) (tr:fQ c.field.points c.now N r) (ct: ∀e∈bQ N c.field.points.length,sB c.certs.list e) (le: ¬oJ to c.now<0) (ho:(out.length:Int)<=nY c+200):
 ∃R:cE×List (Int×Int)×Int,aI eT (hP c r N to out)=some R/\aI gP (hR c r N to out)=some R/\MS R:=by
 have bd:=ok.bd;have rb:=QA ok;have ln:=tr.len;have ceta:(aJ.mk (c.now.1,c.now.2) (Field.mk c.field.points) (aT.mk c.certs.next_ c.certs.list) (aH.mk (aR.mk c.agenda.slots.uses c.agenda.slots.used c.agenda.slots.free) c.agenda.heap c.agenda.where_) c.due)=c:=rfl;have teta:((to.1,to.2):Int×Int)=to:=rfl
 by_cases due:ZS c to
 · obtain ⟨x,c1,e1,e2,ok1,hf,_,hr,hn⟩:=aB0 ok rt r64 le due
   obtain ⟨R,s1,s2,s3⟩:=DP ok1 ok1.fld;have s1:kO c1 c1.field=some R:=s1;have s2:mL c1 c1.field=some R:=s2;have ol:bI out [x]=some (out++[x]):=dK (by rw [List.length_singleton];omega)
   rcases s3 with ⟨q0,qs⟩|he
   · have st1:eT (hP c r N to out)=some (.next (hP R.1.clock R.1.tree.root R.1.tree.nodes to (out++[x]))):=by
      unfold eT hP;simp only [ceta,teta,e1,aB,s1,q0,show ((0:Int) !=0)=false from rfl,cond_false,ol]
     have st2:gP (hR c r N to out)=some (.next (hR R.1.clock R.1.tree.root R.1.tree.nodes to (out++[x]))):=by
      unfold gP hR;simp only [ceta,teta,MR ok r64,aO due,aB,cond_true,e2,s2,q0,show ((0:Int) !=0)=false from rfl,cond_false,ol]
     have rr:=qs.ren.room;rw [aY st1,aY st2];refine ih R.1.clock _ _ _ (by omega) qs.ren.ok (by rw [qs.ren.fld,qs.ren.now];exact qs.tree) (by rw [qs.ren.fld];exact qs.ren.has) (fun h=>?_) (by rw [List.length_append,List.length_singleton];omega)
     have h2:=due.2;rw [qs.ren.now,hn,DJ] at h
     have: ¬0<oJ (Ev.at c.agenda.heap[0]!) to:=by omega
     unfold oJ at this;rcases eQ ((Ev.at c.agenda.heap[0]!).1*to.2) (to.1*(Ev.at c.agenda.heap[0]!).2) with ⟨a,b⟩|⟨a,b⟩|⟨a,b⟩<;>omega
   · refine ⟨(⟨cW,⟨0,[]⟩⟩,[],18),aK ?_,aK ?_,⟨CW,by decide⟩⟩
     · unfold eT hP
       simp only [ceta,teta,e1,aB,s1,he,show ((0:Int) !=0)=false from rfl,show ((18:Int) !=0)=true from rfl,cond_false,cond_true]
     · unfold gP hR
       simp only [ceta,teta,MR ok r64,aO due,aB,cond_true,e2,s2,he,show ((18:Int) !=0)=true from rfl]
 · obtain ⟨r2,N2,h1,h2⟩:=P7 ok.fld rt r64
   obtain ⟨e1,e2⟩:=h2.same ok.fld.2.2 (VV ok tr ct rt le due);subst e1 e2;have h1:lI c.field to=some (⟨r2,N2⟩,bQ N2 c.field.points.length):=h1;have tw:pA ⟨c,⟨r2,N2⟩⟩=some ⟨c,⟨r2,N2⟩⟩:=I5 ⟨ok.short,by show N2.length<=1000;omega⟩
   refine ⟨(⟨atT c to,⟨r2,N2⟩⟩,out,0),aK ?_,aK ?_,⟨⟨?_,by show N2.length<=1000;omega⟩,by show out.length<=1048576;omega⟩⟩
   · unfold eT hP
     simp only [ceta,teta,aB1 ok rt r64 le due,aB,show ((6:Int) !=0)=true from rfl,cond_true,aH9 ok rt r64 le due,h1]
   · unfold gP hR
     simp only [ceta,teta,MR ok r64,aL due,aB,cond_false,tw,aB2 ok]
   · have:=ok.short
     exact ⟨this.f,this.l,this.d,this.h,this.w,this.s1,this.s2,this.s3⟩
theorem ZT {to:Int×Int} (rt:bP to) (r64:nT to): ∀(d:Nat) (c:aJ) (r:Int) (N:List Nd) (out:List (Int×Int)),1000000-nY c<=(d:Int)->bB c->fQ c.field.points c.now N r->(∀e∈bQ N c.field.points.length,sB c.certs.list e)-> ¬oJ to c.now<0->(out.length:Int)<=nY c+200->
 ∃R:cE×List (Int×Int)×Int,aI eT (hP c r N to out)=some R/\aI gP (hR c r N to out)=some R/\MS R:=by
 intro d
 induction d with
 |zero=>exact fun c r N out hd ok tr ct le ho=>I6 rt r64 0 (fun c _ _ _ h ok _ _ _ _=>by have:=(QA ok).2;omega) c r N out hd ok tr ct le ho
 |succ d ih=>exact fun c r N out hd ok tr ct le ho=>I6 rt r64 ((d+1:Nat):Int) (fun c r N out h=>ih c r N out (by omega)) c r N out hd ok tr ct le ho
theorem DQ {k:cE} (n:aBX k.clock) (sh:IE k) {to:Int×Int} (r64:nT to):
 ∃R:cE×List (Int×Int)×Int,iS k to=some R/\jX k to=some R/\MS R:=by
 have fit:wF k.clock:=⟨n.now,⟨sh.c.s3,sh.c.h,sh.c.w,n.at64⟩,sh.c.d⟩;have bad: ∀e:Int,MS (⟨cW,⟨0,[]⟩⟩,[],e):=fun e=>⟨CW,Nat.zero_le _⟩
 have c1:=JH fit;have c2:=MP fit
 by_cases ok:oM k
 case neg=>
  rw [if_neg ok] at c1 c2;refine ⟨(⟨cW,⟨0,[]⟩⟩,[],8),?_,?_,bad 8⟩
  · unfold iS;rw [c1];rfl
  · unfold jX;rw [c2];rfl
 rw [if_pos ok] at c1 c2
 by_cases rt:bP to
 case neg=>
  have u:jS k.clock to=some 8:=by
   unfold jS;rw [nF r64,if_neg rt];rfl
  refine ⟨(⟨cW,⟨0,[]⟩⟩,[],8),?_,?_,bad 8⟩
  · unfold iS
    rw [c1,aB,bX rfl,cond_false,dL r64,if_neg rt];rfl
  · unfold jX
    rw [c2,aB,bX rfl,cond_false,u];rfl
 by_cases le:oJ to k.clock.now<0
 · have u:jS k.clock to=some 44:=by
    unfold jS;rw [nF r64,if_pos rt,aB,bX rfl,cond_false,wB r64 n.now,aB,aO le];rfl
   refine ⟨(⟨cW,⟨0,[]⟩⟩,[],44),?_,?_,bad 44⟩
   · unfold iS
     rw [c1,aB,bX rfl,cond_false,dL r64,if_pos rt,aB,bX rfl,cond_false,HS r64 n.now,if_pos ⟨rt,ok.clk.nowv⟩,aB,aO le];rfl
   · unfold jX
     rw [c2,aB,bX rfl,cond_false,u];rfl
 · have u:jS k.clock to=some 0:=by
    unfold jS;rw [nF r64,if_pos rt,aB,bX rfl,cond_false,wB r64 n.now,aB,aL le];rfl
   have rb:=QA ok.clk;obtain ⟨R,r1,r2,r3⟩:=ZT rt r64 (1000000-nY k.clock).toNat k.clock k.tree.root k.tree.nodes [] (by omega) ok.clk ok.tree (fun e he=>CV.2 (ok.cert.mem_iff.2 he)) le (by simp;omega)
   refine ⟨R,?_,?_,r3⟩
   · unfold iS
     rw [c1,aB,bX rfl,cond_false,dL r64,if_pos rt,aB,bX rfl,cond_false,HS r64 n.now,if_pos ⟨rt,ok.clk.nowv⟩,aB,aL le];exact r1
   · unfold jX
     rw [c2,aB,bX rfl,cond_false,u,aB,bX rfl,cond_false];unfold E4;show (aI gP (hR k.clock k.tree.root k.tree.nodes to [])).bind _=_;rw [r2,aB]
theorem A6 (k:cE) (to:Int×Int) (n:aBX k.clock) (r64:nT to):qU k to=some true:=by
 unfold qU;rcases P9 k with e|⟨e,sh⟩
 · rw [e];rfl
 rw [e,aB,cond_false];unfold EW;rw [aB];cases decide (10<Int.ofNat k.clock.field.points.length) with
 |true=>rfl
 |false=>
  obtain ⟨R,r1,r2,r3⟩:=DQ n sh r64;rw [cond_false,I5 sh,aB,r1,aB,r2,aB,I4 r3.h,aB,cond_true,VQ _ r3.l,aB,cond_true,fR rfl,cond_true,I4 sh,aB]
end Go.Proofs.YticklbjcnimggaaGreat
namespace Go.Proofs.YticklbjcnimggaaGreat
open Go.Vm Classical
theorem aBX.of {c:aJ} (h1:RT.wf [.i .i64,.i .i64] c.now) (h2: ∀a∈c.agenda.heap,RT.wf [.i .i64,.i .i64,.i .i64,.i .i64,.i .i64] a):aBX c where
 now:=⟨HM h1.1,HM h1.2⟩
 at64 w hw:=by
  have:=h2 (c.agenda.heap[w]!) (by rw [getElem!_pos c.agenda.heap w hw];exact List.getElem_mem hw)
  exact ⟨HM this.1,HM this.2.1⟩
end Go.Proofs.YticklbjcnimggaaGreat
