/- Plain laws (4). -/
import Derived.Test.YticklbjcnimggaaGreatBQM3
import Derived.Test.YticklbjcnimggaaGreatBQS2
import Derived.Test.YticklbjcnimggaaGreatBVm3
namespace Go.Proofs.YticklbjcnimggaaGreat
open Go.Vm Classical
theorem VW (l:List (Int×Int)) (hl:l.length<=1048576):oV l l=some true:=by
 unfold oV;rw [cQ rfl,cond_false]
 have:=bV (body:=lP) (fun i=>(l,l,(i:Int))) l.length (fun i hi=>by
  unfold lP;simp only [aF,aP (show (i:Int)<(l.length:Int) by omega),cond_true,aE l i hi,aD,gO rfl,Bool.and_self,Bool.not_true,cond_false,aX (show i<1000000000 by omega)])
 rw [show (l,l,(0:Int))=(l,l,((0:Nat):Int)) from rfl,this];refine aL ?_;unfold lP;simp only [aF,aM (show¬(l.length:Int)<(l.length:Int) by omega),cond_false]
end Go.Proofs.YticklbjcnimggaaGreat
namespace Go.Proofs.YticklbjcnimggaaGreat
open Go.Vm Classical
end Go.Proofs.YticklbjcnimggaaGreat
namespace Go.Proofs.YticklbjcnimggaaGreat
open Go.Vm Classical
theorem P7 (p q:Pt) (t:Int×Int):NX p q t=(p.2.1*t.2+p.2.2*t.1) - (q.2.1*t.2+q.2.2*t.1):=by
 rw [aIf,Int.sub_mul,Int.sub_mul];omega
theorem TH {p q r:Pt} {t:Int×Int} (h1:gQ p q t) (h2:gQ q r t):gQ p r t:=by
 unfold gQ at*;rw [P7] at*;generalize p.2.1*t.2+p.2.2*t.1=a at*;generalize q.2.1*t.2+q.2.2*t.1=b at*;generalize r.2.1*t.2+r.2.2*t.1=c at*;omega
theorem TI {p q:Pt} (t:Int×Int) (h:p.1≠q.1) (hn: ¬gQ p q t):gQ q p t:=by
 unfold gQ at*;rw [P7] at*;generalize p.2.1*t.2+p.2.2*t.1=a at*;generalize q.2.1*t.2+q.2.2*t.1=b at*;omega
end Go.Proofs.YticklbjcnimggaaGreat
namespace Go.Proofs.YticklbjcnimggaaGreat
open Go.Vm Classical
def FA (f:List Pt) (t:Int×Int) (i j:Nat):Prop:=gQ f[i]! f[j]! t
theorem TJ {p q:Pt} {t:Int×Int} (h:gQ p q t): ¬gQ q p t:=by
 unfold gQ at*;rw [P7] at*;generalize p.2.1*t.2+p.2.2*t.1=a at*;generalize q.2.1*t.2+q.2.2*t.1=b at*;omega
theorem JY {f:List Pt} (h:iY f) (t:Int×Int):aBH (FA f t) f.length where
 tr:=fun _ _ _ _ _ _ h1 h2=>TH h1 h2
 asy:=fun _ _ _ _ h=>TJ h
 tot:=fun i j hi hj hne hn=>TI t (fun e=>hne (sC h hi hj e)) hn
structure hO (f:List Pt) (t:Int×Int) (N:List Nd) (r:Int):Prop where
 len:N.length=f.length
 ids: ∀k,k<f.length->(N[k]!).1=(f[k]!).1
 tree:mA (FA f t) N 0 f.length r
theorem hO.same {f:List Pt} (h:iY f) {t:Int×Int} {N N':List Nd} {r r':Int} (a:hO f t N r) (b:hO f t N' r'):N=N'/\r=r':=by
 obtain ⟨e1,e2⟩:=a.tree.unique (JY h t) (Nat.le_refl _) b.tree;refine ⟨CL (by rw [a.len,b.len]) fun k hk=>?_,e1⟩
 have hk:k<f.length:=by rw [<- a.len];exact hk
 exact Prod.ext (by rw [a.ids k hk,b.ids k hk]) (e2 k (Nat.zero_le _) hk)
def Below (N:List Nd) (k j:Nat):Prop:=(N[j]!).2.1=(k:Int)\/(N[j]!).2.2=(k:Int)
noncomputable def mQ (N:List Nd) (k:Nat):Nat:=if h: ∃j,j<N.length/\Below N k j then h.choose else N.length
noncomputable def I6 (N:List Nd) (k:Nat):List (Int×Int):=if mQ N k<N.length then [((N[k]!).1,(N[mQ N k]!).1)] else []
noncomputable def bR (N:List Nd):Nat->List (Int×Int)
 |0=>[]
 |k+1=>bR N k++I6 N k
theorem nK (N:List Nd): ∀k,(bR N k).length<=k
 |0=>Nat.le_refl _
 |k+1=>by
  have:=nK N k
  rw [bR,List.length_append];unfold I6;split
  · simp only [List.length_singleton];omega
  · simp only [List.length_nil];omega
theorem E8 {N:List Nd}: ∀{n:Nat} {e:Int×Int},e∈bR N n↔ ∃k,k<n/\mQ N k<N.length/\e=((N[k]!).1,(N[mQ N k]!).1)
 |0,e=>by
  constructor
  · intro h;cases h
  · rintro ⟨k,h,_⟩;omega
 |n+1,e=>by
  rw [bR,List.mem_append,E8];constructor
  · rintro (⟨k,h1,h2⟩|h)
    · exact ⟨k,by omega,h2⟩
    · unfold I6 at h
      split at h
      · exact ⟨n,by omega,by assumption,List.mem_singleton.1 h⟩
      · cases h
  · rintro ⟨k,h1,h2,h3⟩
    by_cases q:k=n
    · subst q
      right;unfold I6;rw [if_pos h2,h3];exact List.mem_singleton.2 rfl
    · exact .inl ⟨k,by omega,h2,h3⟩
section
variable {f : List Pt} {t : Int × Int} {N : List Nd} {r : Int}
theorem hO.par (h:hO f t N r) {k:Nat} (hk:k<f.length):((k:Int)=r->mQ N k=N.length)/\((k:Int)≠r->mQ N k<N.length/\Below N k (mQ N k)/\mQ N k≠k/\FA f t (mQ N k) k)/\ ∀m,m<N.length->Below N k m->m=mQ N k:=by
 have ln:=h.len
 by_cases hr:(k:Int)=r
 · have none: ¬ ∃j,j<N.length/\Below N k j:=by
    rintro ⟨j,hj,hb⟩;rcases h.tree.kids j (Nat.zero_le _) (by omega) (k:Int) hb with e|⟨_,_,_,_,_,_,e⟩
    · omega
    · exact e hr.symm
   have e:mQ N k=N.length:=by unfold mQ;rw [dif_neg none]
   exact ⟨fun _=>e,fun q=>absurd hr q,fun m hm hb=>absurd ⟨m,hm,hb⟩ none⟩
 · obtain ⟨j,_,j2,j3,j4⟩:=h.tree.up k (Nat.zero_le _) hk hr
   have ex: ∃j,j<N.length/\Below N k j:=⟨j,by omega,j3⟩
   have e:mQ N k=j:=by
    unfold mQ;rw [dif_pos ex]
    have:=ex.choose_spec
    exact j4 _ (Nat.zero_le _) (by omega) this.2
   refine ⟨fun q=>absurd q hr,fun _=>?_,fun m hm hb=>by rw [e];exact j4 m (Nat.zero_le _) (by omega) hb⟩
   rw [e];refine ⟨by omega,j3,?_,?_⟩
   · rcases h.tree.kids j (Nat.zero_le _) j2 (k:Int) j3 with q|⟨i,q,_,_,q2,_⟩
     · omega
     · intro w;omega
   · rcases h.tree.kids j (Nat.zero_le _) j2 (k:Int) j3 with q|⟨i,q,_,_,_,q2,_⟩
     · omega
     · have:i=k:=by omega
       rw [<- this];exact q2
theorem hO.edges (fok:cP f) (h:hO f t N r):JX f (bR N f.length)/\(bR N f.length).Nodup/\ ∀e∈bR N f.length,gQ (mO f e.2) (mO f e.1) t:=by
 have ln:=h.len;have f1:=fok.1;have inf: ∀e∈bR N f.length,∃k j,k<f.length/\j<f.length/\j≠k/\FA f t j k/\e=((f[k]!).1,(f[j]!).1):=by
  intro e he;obtain ⟨k,k1,k2,k3⟩:=E8.1 he;have hp:=h.par k1;have hr:(k:Int)≠r:=fun q=>by have:=hp.1 q;omega
  obtain ⟨p1,p2,p3,p4⟩:=hp.2.1 hr;exact ⟨k,mQ N k,k1,by omega,p3,p4,by rw [k3,h.ids k k1,h.ids (mQ N k) (by omega)]⟩
 have hb: ∀e∈bR N f.length,jR f e:=fun e he=>by
  obtain ⟨k,j,k1,j1,_,_,rfl⟩:=inf e he;exact ⟨⟨k,k1,rfl⟩,⟨j,j1,rfl⟩⟩
 refine ⟨⟨Nat.le_trans (nK N _) (by omega),fun e he=>?_,hb⟩,?_,fun e he=>?_⟩
 · obtain ⟨⟨p1,p2⟩,q1,q2⟩:=And.intro (jD fok (hb e he).1) (jD fok (hb e he).2)
   obtain ⟨k,j,k1,j1,ne,_,rfl⟩:=inf e he
   have:(f[k]!).1≠(f[j]!).1:=fun q=>ne (sC fok.2.2 k1 j1 q).symm
   unfold hZ at p1 q1;unfold fJ;dsimp only at*;omega
 · have go: ∀n,n<=f.length->(bR N n).Nodup:=by
    intro n
    induction n with
    |zero=>exact fun _=>List.nodup_nil
    |succ n ih=>
     intro hn;rw [bR,List.nodup_append];refine ⟨ih (by omega),?_,fun x hx y hy e=>?_⟩
     · unfold I6;split
       · exact List.nodup_cons.2 ⟨List.not_mem_nil,List.nodup_nil⟩
       · exact List.nodup_nil
     · subst e
       obtain ⟨k,k1,_,k3⟩:=E8.1 hx;unfold I6 at hy;split at hy
       · have hy:=List.mem_singleton.1 hy
         rw [k3] at hy;have e1:(N[k]!).1=(N[n]!).1:=(Prod.mk.inj hy).1;rw [h.ids k (by omega),h.ids n (by omega)] at e1
         have:=sC fok.2.2 (by omega) (by omega) e1
         omega
       · cases hy
   exact go _ (Nat.le_refl _)
 · obtain ⟨k,j,k1,j1,_,p,rfl⟩:=inf e he
   rw [GQ fok.2.2 j1 rfl,GQ fok.2.2 k1 rfl];exact p
end
end Go.Proofs.YticklbjcnimggaaGreat
namespace Go.Proofs.YticklbjcnimggaaGreat
open Go.Vm Classical
theorem aOv {f:List Pt} (fok:cP f) {t:Int×Int} (r:bU t) (r64:oA t) {i j:Nat} (hi:i<f.length) (hj:j<f.length) (hne:i≠j):nP f[i]! f[j]! t=some (decide (FA f t i j),0):=by
 have ne:(f[i]!).1≠(f[j]!).1:=fun h=>hne (sC fok.2.2 hi hj h)
 rcases JF (fok.2.1 _ (bF hi)) (fok.2.1 _ (bF hj)) r64 r with h|⟨h,_⟩
 · rw [h,if_neg ne];rfl
 · exact absurd h ne
def eI (es:List Nat):List Int:=es.map fun e:Nat=>(e:Int)
theorem YA (E:List Int) (m:Nat) (x:Int) (h:m+1<=E.length):(fL E m [x]).length=E.length:=by
 unfold fL;simp only [List.length_append,List.length_take,List.length_drop,List.length_singleton];omega
theorem aB5 (es:List Nat):(eI es).length=es.length:=List.length_map ..
theorem aIi (es:List Nat) {j:Nat} (h:j<es.length):(eI es)[j]! =(es[j]!:Int):=by
 rw [getElem!_pos (eI es) j (by rw [aB5];exact h),getElem!_pos es j h]
 exact List.getElem_map ..
theorem YB (es:List Nat) (m:Nat):eI (es.take m)=(eI es).take m:=List.map_take ..
def o2 (f:List Pt) (t:Int×Int) (e c:Nat) (i:Nat) (root:Int) (N:List Nd) (E:List Int):=
 (e,c,f,(f.length:Int),(i:Int),f,t.1,t.2,(0:Int),root,N,E)
def o1 (f:List Pt) (t:Int×Int) (e c:Nat) (i:Nat) (root:Int) (N:List Nd) (E:List Int) (left:Int):=
 (e,c,(i:Int),f,(f.length:Int),(i:Int),f,t.1,t.2,(0:Int),root,N,E,(f[i]!).1,(f[i]!).2.1,(f[i]!).2.2,(f[i]!).1,left,(-1:Int))
def zM (f:List Pt) (N:List Nd) (es:List Nat) (i m:Nat):List Nd:=
 (if m=0 then N else N.set es[m-1]! ((N[es[m-1]!]!).1,(N[es[m-1]!]!).2.1,(i:Int)))++[((f[i]!).1,if m<es.length then (es[m]!:Int) else -1,-1)]
theorem aQ2 {f:List Pt} (fok:cP f) {t:Int×Int} (r:bU t) (r64:oA t) {i:Nat} (hi:i<f.length) {es:List Nat} (hes: ∀e∈es,e<i) {N:List Nd} (hN:N.length=i) {root:Int} {E:List Int} (hE:E.take es.length=eI es) (le:es.length<=E.length) (lE:E.length<=1000):
 ∀(e:Nat),e<=es.length->(∀j,e<=j->j<es.length-> ¬FA f t es[j]! i)->
  ∃(m:Nat) (E':List Int),m<=e/\(0<m->FA f t es[m-1]! i)/\(∀j,m<=j->j<es.length-> ¬FA f t es[j]! i)/\E'.take (m+1)=eI (es.take m++[i])/\m+1<=E'.length/\E'.length<=E.length+1/\
   aH qF (o1 f t e E.length i root N E (if e<es.length then (es[e]!:Int) else -1))=some (.next (o2 f t (m+1) E'.length (i+1) (if m=0 then (i:Int) else root) (zM f N es i m) E')):=by
 have f1:=fok.1;have sc:=aX (show i<1000000000 by omega)
 have put: ∀m,m<=es.length-> ∃E':List Int,E'.take (m+1)=eI (es.take m++[i])/\m+1<=E'.length/\E'.length<=E.length+1/\
  ((m+1<=E.length->E'=fL E m [(i:Int)])/\(¬m+1<=E.length->E'=E.take m++[(i:Int)])):=by
  intro m hm;have tm:E.take m=eI (es.take m):=by rw [YB,<- hE,List.take_take,Nat.min_eq_left hm]
  have ei:eI (es.take m++[i])=eI (es.take m)++[(i:Int)]:=List.map_append ..;have lm:(E.take m++[(i:Int)]).length=m+1:=by rw [List.length_append,List.length_take,List.length_singleton];omega
  by_cases h:m+1<=E.length
  · refine ⟨fL E m [(i:Int)],?_,?_,?_,fun _=>rfl,fun q=>absurd h q⟩
    · unfold fL
      rw [ei,<- tm,List.take_append_of_le_length (by omega),List.take_of_length_le (by omega)]
    · unfold fL;rw [List.length_append];omega
    · unfold fL;rw [List.length_append,lm,List.length_drop,List.length_singleton];omega
  · refine ⟨E.take m++[(i:Int)],?_,by omega,by omega,fun q=>absurd q h,fun _=>rfl⟩
    rw [List.take_of_length_le (by omega),ei,tm]
 have en: ∀(s:Nat),([(i:Int)]:List Int).length=1:=fun _=>rfl
 have ble_t: ∀{a b:Nat},a<=b->Nat.ble a b=true:=fun h=>Nat.ble_eq_true_of_le h
 have ble_f: ∀{a b:Nat},¬a<=b->Nat.ble a b=false:=fun h=>by
  cases hb:Nat.ble _ _ with
  |false=>rfl
  |true=>exact absurd (Nat.le_of_ble_eq_true hb) h
 intro e
 induction e with
 |zero=>
  intro _ hall;obtain ⟨E',e1,e2,e3,e4,e5⟩:=put 0 (Nat.zero_le _);refine ⟨0,E',Nat.le_refl _,fun h=>absurd h (Nat.lt_irrefl _),hall,e1,e2,e3,aL ?_⟩
  have ap: ∀x:Nd,bH N [x]=some (N++[x]):=fun x=>dL (by rw [List.length_singleton];omega)
  have ap2:bH (E.take 0) [(i:Int)]=some (E.take 0++[(i:Int)]):=dL (by rw [List.length_singleton,List.length_take];omega)
  unfold qF o1 o2 zM
  by_cases h:0+1<=E.length
  · simp only [aF,aM (show¬(0:Int)<((0:Nat):Int) by omega),cond_false,ap,aD,List.length_singleton,ble_t h,cond_true,Bool.not_false,Bool.and_self,sc,e4 h,if_true]
    rw [YA _ _ _ h]
  · simp only [aF,aM (show¬(0:Int)<((0:Nat):Int) by omega),cond_false,ap,aD,List.length_singleton,ble_f h,ap2,ble_t (Nat.zero_le E.length),cond_true,sc,e5 h,if_true]
    rfl
 |succ e ih=>
  intro he hall;have tk:E.take (e+1)=eI (es.take (e+1)):=by rw [YB,<- hE,List.take_take,Nat.min_eq_left he]
  have lt:(eI (es.take (e+1))).length=e+1:=by rw [aB5,List.length_take];omega
  have ge:aO (E.take (e+1)) ((e:Nat):Int)=some (es[e]!:Int):=by
   rw [tk,aE _ e (by omega),aIi _ (by rw [List.length_take];omega),kS (by omega)]
  have ew:aA .i64 (((e+1:Nat):Int) -1)=((e:Nat):Int):=by rw [GE ⟨by omega,by omega⟩];omega
  have eb:es[e]!<i:=hes _ (bF (by omega))
  have gp:=aE f es[e]! (by omega)
  have ah:=aOv fok (t:=(t.1,t.2)) r r64 (i:=es[e]!) (j:=i) (by omega) hi (by omega)
  have gn:=aE N es[e]! (by omega)
  have peta:((f[i]!).1,(f[i]!).2.1,(f[i]!).2.2)=f[i]!:=rfl
  by_cases c:FA f t es[e]! i
  · rw [show decide (FA f (t.1,t.2) es[e]! i)=true from aP c] at ah
    obtain ⟨E',e1,e2,e3,e4,e5⟩:=put (e+1) he;refine ⟨e+1,E',Nat.le_refl _,fun _=>c,hall,e1,e2,e3,aL ?_⟩
    have ap: ∀(y x:Nd),bH (N.set es[e]! y) [x]=some (N.set es[e]! y++[x]):=fun y x=>dL (by rw [List.length_singleton,List.length_set];omega)
    have ap2:bH (E.take (e+1)) [(i:Int)]=some (E.take (e+1)++[(i:Int)]):=dL (by rw [List.length_singleton,List.length_take];omega)
    unfold qF o1 o2 zM;rw [show e+1-1=e from rfl,if_neg (Nat.succ_ne_zero e),if_neg (Nat.succ_ne_zero e)]
    by_cases h:e+1+1<=E.length
    · simp only [aF,aP (show (0:Int)<((e+1:Nat):Int) by omega),cond_true,ew,ge,aD,gp,peta,ah,gn,lZ,ap,List.length_singleton,ble_t h,Bool.not_false,Bool.and_self,sc,e4 h]
      rw [YA _ _ _ h]
    · simp only [aF,aP (show (0:Int)<((e+1:Nat):Int) by omega),cond_true,ew,ge,aD,gp,peta,ah,gn,lZ,ap,List.length_singleton,ble_f h,cond_false,ap2,ble_t (show e+1<=E.length by omega),sc,e5 h]
      rw [show (E.take (e+1)++[(i:Int)]).length=e+1+1 from by rw [List.length_append,List.length_take,List.length_singleton];omega]
  · rw [show decide (FA f (t.1,t.2) es[e]! i)=false from aM c] at ah
    obtain ⟨m,E',h1,h2,h3,h4,h5,h6,h7⟩:=ih (by omega) (fun j j1 j2=>by
     by_cases q:j=e
     · rw [q];exact c
     · exact hall j (by omega) j2)
    refine ⟨m,E',by omega,h2,h3,h4,h5,h6,?_⟩
    rw [if_pos (show e<es.length by omega)] at h7
    rw [<- h7];refine aZ ?_;unfold qF o1;simp only [aF,aP (show (0:Int)<((e+1:Nat):Int) by omega),cond_true,ew,ge,aD,gp,peta,ah,cond_false,aP (show (0:Int)<=((e:Nat):Int) by omega),aP (show ((e:Nat):Int)<=(E.length:Int) by omega),Bool.and_self,Int.toNat_natCast]
end Go.Proofs.YticklbjcnimggaaGreat
namespace Go.Proofs.YticklbjcnimggaaGreat
open Go.Vm Classical
theorem aIj {f:List Pt} {N:List Nd} {es:List Nat} {i m:Nat} (hN:N.length=i) (hes: ∀e∈es,e<i) (hm:m<=es.length):
 (zM f N es i m).length=i+1/\(zM f N es i m)[i]! =((f[i]!).1,if m<es.length then (es[m]!:Int) else -1,-1)/\
 ∀k,k<i->((zM f N es i m)[k]!).1=(N[k]!).1/\((zM f N es i m)[k]!).2.1=(N[k]!).2.1/\((0<m/\k=es[m-1]!)->((zM f N es i m)[k]!).2.2=(i:Int))/\(¬(0<m/\k=es[m-1]!)->((zM f N es i m)[k]!).2.2=(N[k]!).2.2):=by
 unfold zM
 by_cases m0:m=0
 · rw [if_pos m0]
   refine ⟨by rw [List.length_append,hN];rfl,?_,fun k hk=>?_⟩
   · rw [gP (by omega),hN,Nat.sub_self];rfl
   · rw [gJ (by omega)]
     exact ⟨rfl,rfl,fun q=>by omega,fun _=>rfl⟩
 · rw [if_neg m0]
   have hb:=hes _ (bF (show m-1<es.length by omega))
   refine ⟨by rw [List.length_append,List.length_set,hN];rfl,?_,fun k hk=>?_⟩
   · rw [gP (by rw [List.length_set];omega),List.length_set,hN,Nat.sub_self];rfl
   · rw [gJ (by rw [List.length_set];omega),bB]
     by_cases q:k=es[m-1]!
     · rw [if_pos ⟨q,by omega⟩,q]
       exact ⟨rfl,rfl,fun _=>rfl,fun w=>absurd ⟨by omega,rfl⟩ w⟩
     · rw [if_neg (fun w=>q w.1)]
       exact ⟨rfl,rfl,fun w=>absurd w.2 q,fun _=>rfl⟩
theorem aQ3 {f:List Pt} (fok:cP f) {t:Int×Int} (r:bU t) (r64:oA t): ∀(d i:Nat) (es:List Nat) (N:List Nd) (root:Int) (E:List Int),f.length-i<=d->i<=f.length->N.length=i->(∀k,k<i->(N[k]!).1=(f[k]!).1)->
 xK (FA f t) N 0 i root es->E.take es.length=eI es->es.length<=E.length->E.length<=i->
 ∃(root':Int) (N':List Nd),aH nQ (o2 f t es.length E.length i root N E)=some (⟨root',N'⟩,0)/\hO f t N' root':=by
 have f1:=fok.1;have fin: ∀(es:List Nat) (N:List Nd) (root:Int) (E:List Int),N.length=f.length->(∀k,k<f.length->(N[k]!).1=(f[k]!).1)->xK (FA f t) N 0 f.length root es->
  ∃(root':Int) (N':List Nd),aH nQ (o2 f t es.length E.length f.length root N E)=some (⟨root',N'⟩,0)/\hO f t N' root':=fun es N root E h1 h2 h3=>
  ⟨root,N,aL (by
   unfold nQ o2;simp only [aM (show¬(f.length:Int)<(f.length:Int) by omega),cond_false]),⟨h1,h2,h3.tree⟩⟩
 intro d
 induction d with
 |zero=>
  intro i es N root E hd hi h1 h2 h3 _ _ _
  have:i=f.length:=by omega
  subst this;exact fin es N root E h1 h2 h3
 |succ d ih=>
  intro i es N root E hd hi h1 h2 h3 h4 h5 h6
  by_cases he:i=f.length
  · subst he;exact fin es N root E h1 h2 h3
  have hi':i<f.length:=by omega
  have o:=JY fok.2.2 t;have mem:=h3.mem;have hes: ∀e∈es,e<i:=fun e he=>(mem e he).2
  obtain ⟨m,E',m1,m2,m3,m4,m5,m6,m7⟩:=aQ2 fok r r64 hi' hes h1 (root:=root) h4 h5 (by omega) es.length (Nat.le_refl _) (fun j j1 j2=>by omega)
  rw [if_neg (Nat.lt_irrefl _)] at m7;have st:nQ (o2 f t es.length E.length i root N E)=some (.next (o2 f t (m+1) E'.length (i+1) (if m=0 then (i:Int) else root) (zM f N es i m) E')):=by
   unfold nQ
   conv=>lhs;unfold o2
   simp only [aP (show (i:Int)<(f.length:Int) by omega),cond_true,aE f i hi',aD]
   exact m7
  obtain ⟨a1,a2,a3⟩:=aIj (f:=f) h1 hes m1;have sp:=h3.add o (N':=zM f N es i m) m (Nat.zero_le _) hi' m1 (fun j hj=>by
   by_cases q:j=m-1
   · rw [q];exact m2 (by omega)
   · have hj':=hes _ (bF (show j<es.length by omega))
     have hm':=hes _ (bF (show m-1<es.length by omega))
     exact o.tr _ es[m-1]! _ (by omega) (by omega) hi' (h3.chain j (m-1) (by omega) (by omega)) (m2 (by omega))) m3
   (by rw [a2]) (by rw [a2]) (fun k _ hk=>by
    obtain ⟨_,b2,b3,b4⟩:=a3 k hk;exact ⟨b2,b3,b4⟩)
  have le:(es.take m++[i]).length=m+1:=by rw [List.length_append,List.length_take,List.length_singleton];omega
  rw [aZ st]
  have:=ih (i+1) (es.take m++[i]) (zM f N es i m) (if m=0 then (i:Int) else root) E' (by omega) (by omega) a1 (fun k hk=>by
   by_cases q:k=i
   · rw [q,a2]
   · rw [(a3 k (by omega)).1];exact h2 k (by omega)) sp (by rw [le];exact m4) (by rw [le];exact m5) (by omega)
  rw [le] at this;exact this
theorem aIk {f:List Pt} (fok:cP f) {t:Int×Int} (r:bU t) (r64:oA t): ∃(root:Int) (N:List Nd),C8 ⟨f⟩ t=some (⟨root,N⟩,0)/\hO f t N root:=by
 obtain ⟨root,N,h1,h2⟩:=aQ3 fok r r64 f.length 0 [] [] (-1) [] (by omega) (by omega) rfl (fun k hk=>by omega) (.nil (Nat.le_refl _)) rfl (Nat.le_refl _) (Nat.le_refl _)
 refine ⟨root,N,?_,h2⟩;have hc:fE ⟨f⟩=some 0:=by rw [kU];exact congrArg some (jM.2 fok)
 unfold C8 AM;rw [hc,aD,cQ rfl,cond_false,eZ r64,if_pos r,aD,aD,cQ rfl,cond_false];exact h1
theorem aOw {f:List Pt} (fok:cP f) {t:Int×Int} (r64:oA t) {a b:Nat} (hb:b<=f.length): ∀(d j best:Nat),b-j<=d->j<=b->wC (FA f t) a j best-> ∃i:Nat,aH jI ((b:Int),(best:Int),(j:Int),f,t)=some (i:Int)/\wC (FA f t) a b i:=by
 have f1:=fok.1;have o:=JY fok.2.2 t;have fin: ∀best:Nat,wC (FA f t) a b best-> ∃i:Nat,aH jI ((b:Int),(best:Int),(b:Int),f,t)=some (i:Int)/\wC (FA f t) a b i:=fun best h=>⟨best,aL (by
  unfold jI;simp only [aM (show¬(b:Int)<(b:Int) by omega),cond_false]),h⟩
 intro d
 induction d with
 |zero=>
  intro j best hd hj h
  have:j=b:=by omega
  subst this;exact fin best h
 |succ d ih=>
  intro j best hd hj h
  by_cases he:j=b
  · subst he;exact fin best h
  have h1:=h.lo;have h2:=h.hi;have sc:=aX (show j<1000000000 by omega)
  have ld:=GI (fok.2.1 _ (bF (show j<f.length by omega))) (fok.2.1 _ (bF (show best<f.length by omega))) r64
  by_cases c:FA f t j best
  · rw [show decide (gQ f[j]! f[best]! t)=true from aP c] at ld
    rw [aZ (y:=((b:Int),(j:Int),((j+1:Nat):Int),f,t)) (by
     unfold jI;simp only [aP (show (j:Int)<(b:Int) by omega),cond_true,aM (show¬(best:Int)<0 by omega),cond_false,aE f j (by omega),aE f best (by omega),aD,ld,sc])]
    refine ih (j+1) j (by omega) (by omega) ⟨by omega,by omega,fun k k1 k2 k3=>?_⟩
    by_cases q:k=best
    · rw [q];exact c
    · exact o.tr j best k (by omega) (by omega) (by omega) c (h.top k k1 (by omega) q)
  · rw [show decide (gQ f[j]! f[best]! t)=false from aM c] at ld
    rw [aZ (y:=((b:Int),(best:Int),((j+1:Nat):Int),f,t)) (by
     unfold jI;simp only [aP (show (j:Int)<(b:Int) by omega),cond_true,aM (show¬(best:Int)<0 by omega),cond_false,aE f j (by omega),aE f best (by omega),aD,ld,sc])]
    refine ih (j+1) best (by omega) (by omega) ⟨h1,by omega,fun k k1 k2 k3=>?_⟩
    by_cases q:k=j
    · rw [q];exact o.tot j best (by omega) (by omega) (by omega) c
    · exact h.top k k1 (by omega) k3
theorem aOx {f:List Pt} (fok:cP f) {t:Int×Int} (r64:oA t) {a b:Nat} (hab:a<b) (hb:b<=f.length): ∃i:Nat,uZ ⟨f⟩ t (a:Int) (b:Int)=some (i:Int)/\wC (FA f t) a b i:=by
 have f1:=fok.1;obtain ⟨i,h1,h2⟩:=aOw fok r64 hb (b- (a+1)) (a+1) a (by omega) (by omega) (show wC (FA f t) a (a+1) a from ⟨by omega,by omega,fun k k1 k2 k3=>by omega⟩)
 refine ⟨i,?_,h2⟩;unfold uZ;rw [aZ (y:=((b:Int),(a:Int),((a+1:Nat):Int),f,t)) (by
  unfold jI;simp only [aP (show (a:Int)<(b:Int) by omega),cond_true,aP (show (-1:Int)<0 by omega),aX (show a<1000000000 by omega)])]
 exact h1
theorem TK (f:List Pt) (t:Int×Int) (a:Nat):uZ ⟨f⟩ t (a:Int) (a:Int)=some (-1):=by
 unfold uZ;refine aL ?_;unfold jI;simp only [aM (show¬(a:Int)<(a:Int) by omega),cond_false]
theorem aIl {f:List Pt} (fok:cP f) {t:Int×Int} (r64:oA t): ∀(d m a b:Nat) (N:List Nd),b-a<=d->d<m->a<=b->b<=f.length->N.length=f.length->
 ∃(r:Int) (N':List Nd),iQ m (f,t.1,t.2,0,(a:Int),(b:Int),N)=some (r,N')/\N'.length=f.length/\(∀k:Nat,(N'[k]!).1=(N[k]!).1)/\(∀k:Nat,(k<a\/b<=k)->N'[k]! =N[k]!)/\mA (FA f t) N' a b r:=by
 have f1:=fok.1;intro d
 induction d with
 |zero=>
  intro m a b N hd hm hab hb hN
  have:a=b:=by omega
  subst this;cases m with
  |zero=>omega
  |succ m=>
   refine ⟨-1,N,?_,hN,fun _=>rfl,fun _ _=>rfl,.nil (Nat.le_refl _)⟩
   show fD _ _=_;unfold fD;simp only [show ((t.1,t.2):Int×Int)=t from rfl,TK f t a,aD,aM (show¬(0:Int)<= -1 by omega),cond_false,beq_self_eq_true,cond_true]
 |succ d ih=>
  intro m a b N hd hm hab hb hN;cases m with
  |zero=>omega
  |succ m=>
  by_cases e:a=b
  · subst e
    refine ⟨-1,N,?_,hN,fun _=>rfl,fun _ _=>rfl,.nil (Nat.le_refl _)⟩
    show fD _ _=_;unfold fD;simp only [show ((t.1,t.2):Int×Int)=t from rfl,TK f t a,aD,aM (show¬(0:Int)<= -1 by omega),cond_false,beq_self_eq_true,cond_true]
  obtain ⟨i,t1,t2⟩:=aOx fok r64 (show a<b by omega) hb
  have lo:=t2.lo;have hi:=t2.hi;obtain ⟨l,N1,g1,g2,g3,g4,g5⟩:=ih m a i N (by omega) (by omega) lo (by omega) hN
  have gi:=aE N1 i (by omega)
  obtain ⟨rr,N2,k1,k2,k3,k4,k5⟩:=ih m (i+1) b (N1.set i ((N1[i]!).1,l,(N1[i]!).2.2)) (by omega) (by omega) (by omega) hb (by rw [List.length_set];exact g2)
  have gj:=aE N2 i (by omega)
  have n2i:N2[i]! =((N1[i]!).1,l,(N1[i]!).2.2):=by rw [k4 i (.inl (by omega)),bB,if_pos ⟨rfl,by omega⟩]
  have n3i:(N2.set i ((N2[i]!).1,(N2[i]!).2.1,rr))[i]! =((N1[i]!).1,l,rr):=by rw [bB,if_pos ⟨rfl,by omega⟩,n2i]
  have n3: ∀k,k≠i->(N2.set i ((N2[i]!).1,(N2[i]!).2.1,rr))[k]! =N2[k]!:=fun k hk=>by rw [bB,if_neg (fun w=>hk w.1)]
  have n1: ∀k,k≠i->(N1.set i ((N1[i]!).1,l,(N1[i]!).2.2))[k]! =N1[k]!:=fun k hk=>by rw [bB,if_neg (fun w=>hk w.1)]
  refine ⟨(i:Int),N2.set i ((N2[i]!).1,(N2[i]!).2.1,rr),?_,by rw [List.length_set];exact k2,fun k=>?_,fun k hk=>?_,?_⟩
  · show fD _ _=_
    unfold fD;simp only [show ((t.1,t.2):Int×Int)=t from rfl,t1,aD,aP (show (0:Int)<=(i:Int) by omega),cond_true,g1,gi,lZ,aX (show i<1000000000 by omega),k1,gj,List.length_set,k2,hN,beq_self_eq_true]
  · by_cases q:k=i
    · rw [q,n3i,<- g3 i]
    · rw [n3 k q,k3 k,n1 k q,g3 k]
  · rw [n3 k (by omega),k4 k (by omega),n1 k (by omega),g4 k (by omega)]
  · refine .node t2 ?_ ?_
    · rw [n3i]
      refine g5.frame fun k h1 h2=>?_
      rw [n3 k (by omega),k4 k (.inl (by omega)),n1 k (by omega)]
    · rw [n3i]
      refine k5.frame fun k h1 h2=>?_
      rw [n3 k (by omega)]
theorem OC {f:List Pt} (fok:cP f) {t:Int×Int} (r64:oA t): ∃(root:Int) (N:List Nd),rX ⟨f⟩ t=some ⟨root,N⟩/\hO f t N root:=by
 have f1:=fok.1
 let ini:Nat->List Nd:=fun i=>(f.take i).map fun p=>(p.1,0,0)
 have il: ∀i,i<=f.length->(ini i).length=i:=fun i hi=>by show (List.map _ _).length=_;rw [List.length_map,List.length_take];omega
 have key:=bV (body:=oJ) (fun i=>((i:Int),f,t.1,t.2,0,0,ini i)) f.length (fun i hi=>by
  have nx:ini (i+1)=ini i++[((f[i]!).1,0,0)]:=by
   show List.map _ _=List.map _ _++_;rw [iR hi,List.map_append];rfl
  unfold oJ;simp only [aF,aP (show (i:Int)<(f.length:Int) by omega),cond_true,aE f i hi,aD,aX (show i<1000000000 by omega),nx]
  rw [dL (by rw [il i (by omega),List.length_singleton];omega),aD])
 obtain ⟨r,N,g1,g2,g3,_,g5⟩:=aIl fok r64 f.length 1000000 0 f.length (ini f.length) (by omega) (by omega) (by omega) (Nat.le_refl _) (il _ (Nat.le_refl _))
 refine ⟨r,N,?_,⟨g2,fun k hk=>?_,g5⟩⟩
 · unfold rX EY
   rw [show aH oJ (0,f,t.1,t.2,0,0,[])=_ from key];rw [aL (r:=(⟨r,N⟩:rO)) (by
    unfold oJ;have g1':rW (f,t.1,t.2,0,0,(f.length:Int),ini f.length)=some (r,N):=g1;simp only [aF,aM (show¬(f.length:Int)<(f.length:Int) by omega),cond_false,g1',aD]),aD]
 · rw [g3 k]
   show (((f.take f.length).map fun p=>((p.1,0,0):Nd))[k]!).1=_
   rw [getElem!_pos _ k (by rw [List.length_map,List.length_take];omega),List.getElem_map,List.getElem_take,getElem!_pos f k hk]
end Go.Proofs.YticklbjcnimggaaGreat
namespace Go.Proofs.YticklbjcnimggaaGreat
open Go.Vm Classical
def JG (U:List Int) (c:Int) (i:Nat):List Int:=if 0<=c then U.set c.toNat (i:Int) else U
def upL (N:List Nd) (U:List Int):Nat->List Int
 |0=>U
 |i+1=>JG (JG (upL N U i) (N[i]!).2.1 i) (N[i]!).2.2 i
theorem GX (U:List Int) (c:Int) (i:Nat):(JG U c i).length=U.length:=by unfold JG;split<;>simp
theorem GY (N:List Nd) (U:List Int): ∀i,(upL N U i).length=U.length
 |0=>rfl
 |i+1=>by rw [upL,GX,GX,GY N U i]
theorem OD (U:List Int) (c:Int) (i k:Nat) (hk:k<U.length):(JG U c i)[k]! =if c=(k:Int) then (i:Int) else U[k]!:=by
 unfold JG
 by_cases h:0<=c
 · rw [if_pos h,bB]
   by_cases q:c=(k:Int)
   · rw [if_pos ⟨by omega,by omega⟩,if_pos q]
   · rw [if_neg (fun w=>q (by omega)),if_neg q]
 · rw [if_neg h,if_neg (by omega)]
theorem ZZ {α:Type} [Inhabited α] {n i:Nat} (a:α) (h:i<n):(List.replicate n a)[i]! =a:=by
 rw [getElem!_pos _ i (by rw [List.length_replicate];exact h),List.getElem_replicate]
section
variable {f : List Pt} {t : Int × Int} {N : List Nd} {r : Int}
theorem hO.link (h:hO f t N r) {j:Nat} (hj:j<f.length) {c:Int} (hc:(N[j]!).2.1=c\/(N[j]!).2.2=c):c= -1\/(0<=c/\c<N.length):=by
 have ln:=h.len;rcases h.tree.kids j (Nat.zero_le _) hj c hc with e|⟨k,e,_,k2,_⟩
 · exact .inl e
 · exact .inr ⟨by omega,by omega⟩
theorem hO.upIs (h:hO f t N r) {U:List Int} (hU:U.length=N.length): ∀i,i<=N.length-> ∀k,k<N.length->(upL N U i)[k]! =if mQ N k<i then (mQ N k:Int) else U[k]!
 |0,_,k,_=>by rw [if_neg (Nat.not_lt_zero _)];rfl
 |i+1,hi,k,hk=>by
  have ln:=h.len;have ih:=h.upIs hU i (by omega) k hk
  have p:=h.par (k:=k) (by omega)
  rw [upL,OD _ _ _ _ (by rw [GX,GY];omega),OD _ _ _ _ (by rw [GY];omega),ih]
  by_cases hb:Below N k i
  · have e:=p.2.2 i (by omega) hb
    rw [if_pos (show mQ N k<i+1 by omega),<- e]
    rcases hb with q|q
    · by_cases w:(N[i]!).2.2=(k:Int)
      · rw [if_pos w]
      · rw [if_neg w,if_pos q]
    · rw [if_pos q]
  · have n1: ¬(N[i]!).2.1=(k:Int):=fun q=>hb (.inl q)
    have n2: ¬(N[i]!).2.2=(k:Int):=fun q=>hb (.inr q)
    rw [if_neg n2,if_neg n1];have ne:mQ N k≠i:=fun q=>by
     by_cases hr:(k:Int)=r
     · have:=p.1 hr;omega
     · have:=(p.2.1 hr).2.1
       rw [q] at this;exact hb this
    by_cases q:mQ N k<i
    · rw [if_pos q,if_pos (by omega)]
    · rw [if_neg q,if_neg (by omega)]
def m1S (N:List Nd) (r:Int) (i:Nat) (j:Int) (U:List Int):=((i:Int),N,(N.length:Int),(i:Int),(N[i]!).2.1,(N[i]!).2.2,j,(0:Int),r,N,U)
def m3S (N:List Nd) (r:Int) (i:Nat) (U:List Int):=(N,(N.length:Int),(i:Int),(0:Int),r,N,U)
theorem YC {U:List Int} {c:Int} (h0:0<=c) (h:c<U.length): ∃x,aO U c=some x:=⟨_,dI h0 h⟩
theorem YD {U:List Int} {c:Int} (h0:0<=c) (x:Int):bX U c x=U.set c.toNat x:=by
 obtain ⟨n,rfl⟩:=Int.eq_ofNat_of_zero_le h0;rw [lZ,Int.toNat_natCast]
theorem aIm (h:hO f t N r) (hN:N.length<=1000) {i:Nat} (hi:i<N.length) {U:List Int} (hU:U.length=N.length):aH iL (m1S N r i 0 U)=some (.next (m3S N r (i+1) (JG (JG U (N[i]!).2.1 i) (N[i]!).2.2 i))):=by
 have ln:=h.len;have l1:=h.link (j:=i) (by omega) (.inl rfl)
 have l2:=h.link (j:=i) (by omega) (.inr rfl)
 have s1:iL (m1S N r i 0 U)=some (.next (m1S N r i 1 (JG U (N[i]!).2.1 i))):=by
  unfold iL m1S JG;simp only [aP (show (0:Int)<2 by omega),cond_true,beq_self_eq_true,show aA .i64 (0+1)=1 from GE ⟨by omega,by omega⟩]
  by_cases q:0<=(N[i]!).2.1
  · obtain ⟨x,hx⟩:=YC (U:=U) q (by omega)
    rw [aP q,cond_true,hx,aD,YD q,if_pos q]
  · rw [aM q,cond_false,if_neg q]
 have s2: ∀V:List Int,V.length=N.length->iL (m1S N r i 1 V)=some (.next (m1S N r i 2 (JG V (N[i]!).2.2 i))):=by
  intro V hV;unfold iL m1S JG;simp only [aP (show (1:Int)<2 by omega),cond_true,show ((1:Int)==0)=false from rfl,cond_false,beq_self_eq_true,show aA .i64 (1+1)=2 from GE ⟨by omega,by omega⟩]
  by_cases q:0<=(N[i]!).2.2
  · obtain ⟨x,hx⟩:=YC (U:=V) q (by omega)
    rw [aP q,cond_true,hx,aD,YD q,if_pos q]
  · rw [aM q,cond_false,if_neg q]
 rw [aZ s1,aZ (s2 _ (by rw [GX];exact hU))]
 refine aL ?_;unfold iL m1S m3S;simp only [aM (show¬(2:Int)<2 by omega),cond_false,aX (show i<1000000000 by omega)]
theorem VX (h:hO f t N r) (hN:N.length<=1000):aH kG ((N.length:Int),0,0,r,N,List.replicate N.length 0)=some (⟨r,N⟩,bR N N.length):=by
 have ln:=h.len;have k4:=bV (body:=kG) (fun i=>((N.length:Int),(i:Int),(0:Int),r,N,List.replicate i (-1)++List.replicate (N.length-i) 0)) N.length (fun i hi=>by
  have ll:(List.replicate i (-1:Int)++List.replicate (N.length-i) 0).length=N.length:=by rw [List.length_append,List.length_replicate,List.length_replicate];omega
  have e:(List.replicate i (-1:Int)++List.replicate (N.length-i) 0).set i (-1)=List.replicate (i+1) (-1)++List.replicate (N.length- (i+1)) 0:=by
   rw [show N.length-i=(N.length- (i+1))+1 by omega,List.replicate_succ,List.set_append_right _ _ (by rw [List.length_replicate];exact Nat.le_refl _),List.length_replicate,Nat.sub_self,List.set_cons_zero,List.replicate_succ',List.append_assoc]
   rfl
  unfold kG;simp only [aP (show (i:Int)<(N.length:Int) by omega),cond_true,aE (List.replicate i (-1:Int)++List.replicate (N.length-i) 0) i (by omega),aD,lZ,e,aX (show i<1000000000 by omega)])
 have e0:List.replicate 0 (-1:Int)++List.replicate (N.length-0) 0=List.replicate N.length 0:=rfl;have e1:List.replicate N.length (-1:Int)++List.replicate (N.length-N.length) 0=List.replicate N.length (-1):=by rw [Nat.sub_self,List.replicate_zero,List.append_nil]
 rw [e0,e1] at k4;rw [show aH kG ((N.length:Int),0,0,r,N,List.replicate N.length 0)=_ from k4];have lU:(List.replicate N.length (-1:Int)).length=N.length:=List.length_replicate ..;have k3:=bV (body:=kF) (fun i=>m3S N r i (upL N (List.replicate N.length (-1)) i)) N.length (fun i hi=>by
  have g:=aE N i hi;unfold kF
  conv=>lhs;unfold m3S
  simp only [aP (show (i:Int)<(N.length:Int) by omega),cond_true,g,aD]
  exact aIm h hN hi (by rw [GY,lU]))
 have up:=h.upIs lU N.length (Nat.le_refl _);have k2:=bV (body:=kE) (fun i=>(N,(N.length:Int),(i:Int),(0:Int),r,N,upL N (List.replicate N.length (-1)) N.length,bR N i)) N.length (fun i hi=>by
  have g:=aE N i hi;have gu:=aE (upL N (List.replicate N.length (-1)) N.length) i (by rw [GY,lU];exact hi)
  have el:=nK N i;rw [up i hi] at gu;unfold kE;rw [show bR N (i+1)=bR N i++I6 N i from rfl];unfold I6
  by_cases q:mQ N i<N.length
  · rw [if_pos q] at gu
    simp only [aP (show (i:Int)<(N.length:Int) by omega),cond_true,g,gu,aD,aP (show (0:Int)<=(mQ N i:Int) by omega),aE N (mQ N i) q,aX (show i<1000000000 by omega),if_pos q]
    rw [dL (by rw [List.length_singleton];omega),aD]
  · rw [if_neg q,ZZ (-1) hi] at gu
    simp only [aP (show (i:Int)<(N.length:Int) by omega),cond_true,g,gu,aD,aM (show¬(0:Int)<= -1 by omega),cond_false,aX (show i<1000000000 by omega),if_neg q,List.append_nil])
 have f2:aH kE (N,(N.length:Int),0,0,r,N,upL N (List.replicate N.length (-1)) N.length,[])=some (.done (.done (⟨r,N⟩,bR N N.length))):=by
  rw [show aH kE (N,(N.length:Int),0,0,r,N,upL N (List.replicate N.length (-1)) N.length,[])=_ from k2];refine aL ?_;unfold kE;simp only [aM (show¬(N.length:Int)<(N.length:Int) by omega),cond_false]
 have f3:aH kF (m3S N r 0 (List.replicate N.length (-1)))=some (.done (⟨r,N⟩,bR N N.length)):=by
  rw [show aH kF (m3S N r 0 (List.replicate N.length (-1)))=_ from k3];refine aL ?_;unfold kF m3S;simp only [aF,aM (show¬(N.length:Int)<(N.length:Int) by omega),cond_false]
  exact f2
 refine aL ?_;unfold kG;simp only [aF,aM (show¬(N.length:Int)<(N.length:Int) by omega),cond_false]
 exact f3
theorem aIn (h:hO f t N r) (hN:N.length<=1000) {i:Nat} (hi:i<N.length):aH pP ((i:Int),0,r,N,bR N i)=some (.next (((i+1:Nat):Int),r,N,bR N (i+1))):=by
 have ln:=h.len;have p:=h.par (k:=i) (by omega)
 have el:=nK N i;have g:=aE N i hi;have key:=bV (body:=pP) (fun j=>((i:Int),(j:Int),r,N,bR N i++(if mQ N i<j then [((N[i]!).1,(N[mQ N i]!).1)] else []))) N.length (fun j hj=>by
  have gj:=aE N j hj;unfold pP
  by_cases hb:Below N i j
  · have e:=p.2.2 j hj hb
    rw [if_neg (show¬mQ N i<j by omega),if_pos (show mQ N i<j+1 by omega),List.append_nil]
    have ap:bH (bR N i) [((N[i]!).1,(N[j]!).1)]=some (bR N i++[((N[i]!).1,(N[j]!).1)]):=dL (by rw [List.length_singleton];omega)
    by_cases q:(N[j]!).2.1=(i:Int)
    · simp only [aF,aP (show (j:Int)<(N.length:Int) by omega),cond_true,gj,g,aD,gO q,ap,aX (show j<1000000000 by omega),<- e]
    · have q2:(N[j]!).2.2=(i:Int):=hb.resolve_left q
      simp only [aF,aP (show (j:Int)<(N.length:Int) by omega),cond_true,gj,g,aD,fW q,cond_false,gO q2,ap,aX (show j<1000000000 by omega),<- e]
  · have ne:mQ N i≠j:=fun q=>by
     by_cases hr:(i:Int)=r
     · have:=p.1 hr;omega
     · have:=(p.2.1 hr).2.1
       rw [q] at this;exact hb this
    have n1: ¬(N[j]!).2.1=(i:Int):=fun q=>hb (.inl q)
    have n2: ¬(N[j]!).2.2=(i:Int):=fun q=>hb (.inr q)
    have e:(if mQ N i<j+1 then [((N[i]!).1,(N[mQ N i]!).1)] else [])=(if mQ N i<j then [((N[i]!).1,(N[mQ N i]!).1)] else []):=by
     by_cases q:mQ N i<j
     · rw [if_pos q,if_pos (by omega)]
     · rw [if_neg q,if_neg (by omega)]
    simp only [aF,aP (show (j:Int)<(N.length:Int) by omega),cond_true,gj,aD,fW n1,fW n2,cond_false,aX (show j<1000000000 by omega),e])
 have e0:(if mQ N i<0 then [((N[i]!).1,(N[mQ N i]!).1)] else [])=[]:=if_neg (Nat.not_lt_zero _)
 rw [e0,List.append_nil] at key;rw [show aH pP ((i:Int),0,r,N,bR N i)=_ from key];refine aL ?_;unfold pP;simp only [aF,aM (show¬(N.length:Int)<(N.length:Int) by omega),cond_false,aX (show i<1000000000 by omega)]
 rfl
theorem P8 (h:hO f t N r) (hN:N.length<=1000):vV ⟨r,N⟩=some (bR N N.length):=by
 have k:=bV (body:=tS) (fun i=>((i:Int),r,N,bR N i)) N.length (fun i hi=>by
  unfold tS;simp only [aF,aP (show (i:Int)<(N.length:Int) by omega),cond_true]
  exact aIn h hN hi)
 unfold vV;rw [show aH tS (0,r,N,[])=_ from k];refine aL ?_;unfold tS;simp only [aF,aM (show¬(N.length:Int)<(N.length:Int) by omega),cond_false]
end
end Go.Proofs.YticklbjcnimggaaGreat
namespace Go.Proofs.YticklbjcnimggaaGreat
open Go.Vm Classical
end Go.Proofs.YticklbjcnimggaaGreat
namespace Go.Proofs.YticklbjcnimggaaGreat
open Go.Vm Classical
noncomputable def nY (f:List Pt) (es:List (Int×Int)):Int:=if¬(∀x∈es,fJ x) then 8 else if¬es.Nodup then 14 else if¬(∀x∈es,jR f x) then 6 else 0
def rP (c:aQ) (f:List Pt) (es:List (Int×Int)) (i:Nat):=
 (es,es,(es.length:Int),(i:Int),c.now.1,c.now.2,c.field.points,c.certs.next_,c.certs.list,c.agenda.slots.uses,c.agenda.slots.used,c.agenda.slots.free,c.agenda.heap,c.agenda.where_,c.due,f,(0:Int),(0:Int),(0:Int))
theorem MN {c:aQ} (ok:bE c) {f:List Pt} (fok:cP f) {es:List (Int×Int)} (hl:es.length<=1000) {r:aQ×Int} (hr:nY f es=0->tQ c ⟨f⟩ es=some r):
 pM c ⟨f⟩ es=some (if nY f es=0 then r else (dD,nY f es)):=by
 have bd:=ok.bd;have ab:=ok.agd.bd;have sl:=ok.agd.so.fl;have sn:=ok.agd.so.n2;have su:=ok.agd.so.ul;have el:decide ((es.length:Int)<(es.length:Int))=false:=aM (by omega)
 have hc:gN c=some 0:=by rw [nJ ok.fit,if_pos ok]
 have hf:fE ⟨f⟩=some 0:=by rw [kU];exact congrArg some (jM.2 fok)
 have tw:vT (aQ.mk (c.now.1,c.now.2) (Field.mk c.field.points) (aW.mk c.certs.next_ c.certs.list) (aI.mk (aR.mk c.agenda.slots.uses c.agenda.slots.used c.agenda.slots.free) c.agenda.heap c.agenda.where_) c.due)=some c:=by
  unfold vT;simp only [bC (show c.field.points.length<=1048576 by omega),bC (show c.certs.list.length<=1048576 by omega),bC (show c.due.length<=1048576 by omega),bC (show c.agenda.heap.length<=1048576 by omega),bC (show c.agenda.where_.length<=1048576 by omega),
   bC (show c.agenda.slots.uses.length<=1048576 by omega),bC (show c.agenda.slots.used.length<=1048576 by omega),bC (show c.agenda.slots.free.length<=1048576 by omega),aD]
 have k3: ∀e2:aQ×Int,aH eA (rP c f es 0)=some (.done e2)->aH eB (rP c f es 0)=some (if∀i,i<es.length->fJ es[i]! then e2 else (dD,8)):=by
  intro e2 h2;refine P6 (body:=eB) (fun i=>rP c f es i) es.length (fun i=>fJ es[i]!) (r:=(dD,8)) (e:=e2) (fun i hi=>?_) ?_
  · have e1:decide ((i:Int)<(es.length:Int))=true:=aP (by omega)
    unfold eB rP fJ;simp only [e1,cond_true,aE es i hi,aD,aX (show i<1000000000 by omega)]
    generalize es[i]! =x
    by_cases a1:x.1<0
    · rw [aP a1];exact ⟨fun _=>rfl,fun h=>by omega⟩
    rw [aM a1]
    by_cases a2:x.2<0
    · rw [aP a2];exact ⟨fun _=>rfl,fun h=>by omega⟩
    rw [aM a2]
    by_cases a3:65535<x.1
    · rw [aP a3];exact ⟨fun _=>rfl,fun h=>by omega⟩
    rw [aM a3]
    by_cases a4:65535<x.2
    · rw [aP a4];exact ⟨fun _=>rfl,fun h=>by omega⟩
    rw [aM a4]
    by_cases a5:x.1=x.2
    · rw [gO a5];exact ⟨fun _=>rfl,fun h=>absurd a5 h.2.2.2.2⟩
    · rw [fW a5];exact ⟨fun h=>absurd ⟨by omega,by omega,by omega,by omega,a5⟩ h,fun _=>rfl⟩
  · unfold eB rP
    simp only [aF,el,cond_false];exact h2
 have k2: ∀e1:aQ×Int,aH eY (rP c f es 0)=some (.done (.done e1))->aH eA (rP c f es 0)=some (.done (if∀i,i<es.length->es[i]!∉es.take i then e1 else (dD,14))):=by
  intro e0 h2
  have:=P6 (body:=eA) (fun i=>rP c f es i) es.length (fun i=>es[i]!∉es.take i) (r:= .done (dD,14)) (e:= .done e0) (fun i hi=>by
   have e1:decide ((i:Int)<(es.length:Int))=true:=aP (by omega)
   unfold eA rP;simp only [e1,cond_true,aE es i hi,nX es i (by omega),aD,oM _ _ (show (es.take i).length<=1000000 by rw [List.length_take];omega),aX (show i<1000000000 by omega)]
   by_cases h:es[i]!∈es.take i
   · rw [aP h];exact ⟨fun _=>rfl,fun k=>absurd h k⟩
   · rw [aM h];exact ⟨fun k=>absurd h k,fun _=>rfl⟩) (by
   unfold eA rP;simp only [aF,el,cond_false];exact h2)
  refine this.trans ?_
  by_cases hb: ∀i,i<es.length->es[i]!∉es.take i
  · rw [if_pos hb,if_pos hb]
  · rw [if_neg hb,if_neg hb]
 have step1: ∀i,i<es.length->(¬jR f es[i]!->eY (rP c f es i)=some (.done (.done (.done (dD,6)))))/\(jR f es[i]!->eY (rP c f es i)=some (.next (rP c f es (i+1)))):=by
  intro i hi;have e1:decide ((i:Int)<(es.length:Int))=true:=aP (by omega)
  obtain ⟨p,e,a1,a2⟩:=EB fok (es[i]!).1;obtain ⟨q,g,b1,b2⟩:=EB fok (es[i]!).2;unfold eY rP jR;simp only [e1,cond_true,aE es i hi,aD,a1,b1,aX (show i<1000000000 by omega)]
  by_cases h1:BL f (es[i]!).1
  · rw [cQ (a2.2 h1)]
    by_cases h2:BL f (es[i]!).2
    · rw [cQ (b2.2 h2)]
      exact ⟨fun h=>absurd ⟨h1,h2⟩ h,fun _=>rfl⟩
    · rw [dM (fun h=>h2 (b2.1 h))]
      exact ⟨fun _=>rfl,fun h=>absurd h.2 h2⟩
  · rw [dM (fun h=>h1 (a2.1 h))]
    exact ⟨fun _=>rfl,fun h=>absurd h.1 h1⟩
 have start:pM c ⟨f⟩ es=aH eB (rP c f es 0):=by
  unfold pM;simp only [hc,aD,show ((0:Int) !=0)=false from rfl,cond_false,hf];rfl
 rw [start]
 by_cases h1: ∀x∈es,fJ x
 case neg=>
  have er:nY f es=8:=by unfold nY;rw [if_pos h1]
  rw [er,if_neg (by omega)]
  have:=dA (body:=eB) (fun i=>rP c f es i) es.length (fun i=> ¬fJ es[i]!) (r:=(dD,8)) (e:=r)
  have k3':=k3;rw [GV (P:=fJ)] at h1;obtain ⟨i,h⟩:=Classical.not_forall.1 h1;obtain ⟨hi,hx⟩:=Classical.not_imp.1 h;obtain ⟨m,m1,m2,m3⟩:=GF (c:=fun i=> ¬fJ es[i]!) ⟨i,hi,hx⟩
  have go: ∀j,j<es.length->(¬fJ es[j]!->eB (rP c f es j)=some (.done (dD,8)))/\(fJ es[j]!->eB (rP c f es j)=some (.next (rP c f es (j+1)))):=by
   intro j hj;have e1:decide ((j:Int)<(es.length:Int))=true:=aP (by omega)
   unfold eB rP fJ;simp only [e1,cond_true,aE es j hj,aD,aX (show j<1000000000 by omega)]
   generalize es[j]! =x
   by_cases a1:x.1<0
   · rw [aP a1];exact ⟨fun _=>rfl,fun h=>by omega⟩
   rw [aM a1]
   by_cases a2:x.2<0
   · rw [aP a2];exact ⟨fun _=>rfl,fun h=>by omega⟩
   rw [aM a2]
   by_cases a3:65535<x.1
   · rw [aP a3];exact ⟨fun _=>rfl,fun h=>by omega⟩
   rw [aM a3]
   by_cases a4:65535<x.2
   · rw [aP a4];exact ⟨fun _=>rfl,fun h=>by omega⟩
   rw [aM a4]
   by_cases a5:x.1=x.2
   · rw [gO a5];exact ⟨fun _=>rfl,fun h=>absurd a5 h.2.2.2.2⟩
   · rw [fW a5];exact ⟨fun h=>absurd ⟨by omega,by omega,by omega,by omega,a5⟩ h,fun _=>rfl⟩
  rw [bV (body:=eB) (fun i=>rP c f es i) m fun j hj=>(go j (by omega)).2 (Classical.not_not.1 (m3 j hj))]
  exact aL ((go m m1).1 m2)
 have h1':=(GV (P:=fJ)).1 h1
 by_cases h2:es.Nodup
 case neg=>
  have er:nY f es=14:=by unfold nY;rw [if_neg (Classical.not_not.2 h1),if_pos h2]
  rw [er,if_neg (by omega)]
  have h2':=h2;rw [MM] at h2';obtain ⟨i,h⟩:=Classical.not_forall.1 h2';obtain ⟨hi,hx⟩:=Classical.not_imp.1 h;obtain ⟨m,m1,m2,m3⟩:=GF (c:=fun i=> ¬es[i]!∉es.take i) ⟨i,hi,hx⟩
  have go: ∀j,j<es.length->(es[j]!∈es.take j->eA (rP c f es j)=some (.done (.done (dD,14))))/\(es[j]!∉es.take j->eA (rP c f es j)=some (.next (rP c f es (j+1)))):=by
   intro j hj;have e1:decide ((j:Int)<(es.length:Int))=true:=aP (by omega)
   unfold eA rP;simp only [e1,cond_true,aE es j hj,nX es j (by omega),aD,oM _ _ (show (es.take j).length<=1000000 by rw [List.length_take];omega),aX (show j<1000000000 by omega)]
   by_cases h:es[j]!∈es.take j
   · rw [aP h];exact ⟨fun _=>rfl,fun k=>absurd h k⟩
   · rw [aM h];exact ⟨fun k=>absurd k h,fun _=>rfl⟩
  have l2:aH eA (rP c f es 0)=some (.done (dD,14)):=by
   rw [bV (body:=eA) (fun i=>rP c f es i) m fun j hj=>(go j (by omega)).2 (Classical.not_not.1 (m3 j hj))]
   exact aL ((go m m1).1 (Classical.not_not.1 m2))
  rw [k3 _ l2,if_pos h1']
 have h2':=MM.1 h2
 by_cases h3: ∀x∈es,jR f x
 case neg=>
  have er:nY f es=6:=by unfold nY;rw [if_neg (Classical.not_not.2 h1),if_neg (Classical.not_not.2 h2),if_pos h3]
  rw [er,if_neg (by omega)]
  have h3':=h3;rw [GV (P:=jR f)] at h3';obtain ⟨i,h⟩:=Classical.not_forall.1 h3';obtain ⟨hi,hx⟩:=Classical.not_imp.1 h;obtain ⟨m,m1,m2,m3⟩:=GF (c:=fun i=> ¬jR f es[i]!) ⟨i,hi,hx⟩
  have l1:aH eY (rP c f es 0)=some (.done (.done (dD,6))):=by
   rw [bV (body:=eY) (fun i=>rP c f es i) m fun j hj=>(step1 j (by omega)).2 (Classical.not_not.1 (m3 j hj))]
   exact aL ((step1 m m1).1 m2)
  rw [k3 _ (k2 _ l1),if_pos h1',if_pos h2']
 have h3':=(GV (P:=jR f)).1 h3;have er:nY f es=0:=by unfold nY;rw [if_neg (Classical.not_not.2 h1),if_neg (Classical.not_not.2 h2),if_neg (Classical.not_not.2 h3)]
 rw [er,if_pos rfl];have l1:aH eY (rP c f es 0)=some (.done (.done r)):=by
  rw [bV (body:=eY) (fun i=>rP c f es i) es.length fun j hj=>(step1 j hj).2 (h3' j hj)]
  refine aL ?_;unfold eY rP;simp only [el,cond_false,tw,aD,hr er]
 rw [k3 _ (k2 _ l1),if_pos h1',if_pos h2']
end Go.Proofs.YticklbjcnimggaaGreat
namespace Go.Proofs.YticklbjcnimggaaGreat
open Go.Vm Classical
theorem P9 {f:List Pt} (fok:cP f) {t:Int×Int} (r:bU t) (r64:oA t): ∃(root:Int) (N:List Nd),lC ⟨f⟩ t=some (⟨root,N⟩,bR N f.length)/\hO f t N root:=by
 have f1:=fok.1;obtain ⟨root,N,h1,h2⟩:=aIk fok r r64;have ln:=h2.len;have mk:tJ (N.length:Int) (0:Int)=some (List.replicate N.length 0):=by
  unfold tJ;rw [if_pos ⟨by omega,by omega⟩,Int.toNat_natCast]
 refine ⟨root,N,?_,h2⟩;unfold lC;simp only [h1,aD,aF,beq_self_eq_true,cond_true,mk,List.length_replicate];rw [<- ln];exact VX h2 (by omega)
theorem VY:qP=iO:=rfl
theorem YE (r r':Int) (a b:List Nd) (hl:a.length<=1000000):pT ⟨r,a⟩ ⟨r',b⟩=some (decide (r=r'/\a=b)):=by
 unfold pT;simp only [aF]
 by_cases h0:r=r'
 case neg=>rw [dM h0,cond_true,aM (fun h=>h0 h.1)]
 rw [cQ h0,cond_false]
 by_cases h:a.length=b.length
 case neg=>rw [dM (by omega),cond_true,aM (fun q=>h (by rw [q.2]))]
 rw [cQ (by omega),cond_false]
 have key:=P6 (body:=qU) (fun i=>((i:Int),r,a,r',b)) a.length (fun i=>a[i]! =b[i]!) (r:=false) (e:=true) (fun i hi=>by
  unfold qU;simp only [aF,aP (show (i:Int)<(a.length:Int) by omega),cond_true,aE a i hi,aE b i (by omega),aD,aX (show i<1000000000 by omega)]
  rw [VS]
  by_cases q:a[i]! =b[i]!
  · rw [aP q];exact ⟨fun w=>absurd q w,fun _=>rfl⟩
  · rw [aM q];exact ⟨fun _=>rfl,fun w=>absurd w q⟩) (by
  unfold qU;simp only [aF,aM (show¬(a.length:Int)<(a.length:Int) by omega),cond_false])
 refine (show _=_ from key).trans ?_
 by_cases q:a=b
 · rw [if_pos (fun i _=>by rw [q]),aP ⟨h0,q⟩]
 · rw [if_neg (fun w=>q (CL h w)),aM (fun w=>q w.2)]
theorem aIo (c:aQ) (es:List (Int×Int)) (h1:es.length<=1000000) (h2:c.certs.list.length<=1000000):
 tV c es=some (decide (es.length=c.certs.list.length/\ ∀i,i<c.certs.list.length->(c.certs.list[i]!).2∈es)):=by
 unfold tV dU eS;simp only [aF]
 by_cases h0:es.length=c.certs.list.length
 case neg=>rw [fW (by omega),cond_false,aM (fun q=>h0 q.1)]
 rw [gO (by omega),cond_true]
 have key:=nF (body:=bL) (fun i=>(c.certs.list,es,(c.certs.list.length:Int),(i:Int))) c.certs.list.length (fun i=>(c.certs.list[i]!).2∉es) (fun i=>(i:Int)) (e:= -1) (fun i hi=>by
  unfold bL yC;simp only [aP (show (i:Int)<(c.certs.list.length:Int) by omega),cond_true,aE c.certs.list i hi,aD,oM es _ h1,aX (show i<1000000000 by omega)]
  refine ⟨fun q=>?_,fun q=>?_⟩
  · rw [aM q];rfl
  · rw [aP (Classical.not_not.1 q)];rfl) (by
  unfold bL;simp only [aM (show¬(c.certs.list.length:Int)<(c.certs.list.length:Int) by omega),cond_false])
 by_cases hx: ∀i,i<c.certs.list.length->(c.certs.list[i]!).2∈es
 · rw [show aH bL (c.certs.list,es,(c.certs.list.length:Int),0)=_ from key.2 (fun i hi=>Classical.not_not.2 (hx i hi)),aD,aD,aM (by omega),aP ⟨h0,hx⟩]
   rfl
 · obtain ⟨i,hi⟩:=Classical.not_forall.1 hx
   obtain ⟨hi,hn⟩:=Classical.not_imp.1 hi;obtain ⟨m,m1,m2,m3⟩:=GF (c:=fun i=>(c.certs.list[i]!).2∉es) ⟨i,hi,hn⟩
   rw [show aH bL (c.certs.list,es,(c.certs.list.length:Int),0)=_ from key.1 m m1 m2 m3,aD,aD,aP (by omega),aM (fun w=>hx w.2)]
   rfl
structure oN (k:dX):Prop where
 clk:bE k.clock
 tree:hO k.clock.field.points k.clock.now k.tree.nodes k.tree.root
 cert:(k.clock.certs.list.map fun x=>x.2).Perm (bR k.tree.nodes k.clock.field.points.length)
theorem JH {c:aQ} (ok:bE c) {N:List Nd} {r:Int} (tr:hO c.field.points c.now N r):
 ((bR N c.field.points.length).length=c.certs.list.length/\ ∀i,i<c.certs.list.length->(c.certs.list[i]!).2∈bR N c.field.points.length)↔(c.certs.list.map fun x=>x.2).Perm (bR N c.field.points.length):=by
 have cl:(c.certs.list.map fun x=>x.2).length=c.certs.list.length:=List.length_map ..
 constructor
 · rintro ⟨h1,h2⟩
   refine E2 (TG ok.crt) (fun x hx=>?_) (by omega)
   obtain ⟨i,hi,rfl⟩:=GW.2 hx;exact h2 i hi
 · intro h
   exact ⟨by rw [<- h.length_eq,cl],fun i hi=>h.mem_iff.1 (GW.1 ⟨i,hi,rfl⟩)⟩
theorem QA {c:aQ} (ok:bE c) {N:List Nd} {r:Int} (tr:hO c.field.points c.now N r):
 (c.certs.list.length=(bR N c.field.points.length).length/\ ∀i,i<(bR N c.field.points.length).length->wF c.certs.list (bR N c.field.points.length)[i]!/\gQ (mO c.field.points ((bR N c.field.points.length)[i]!).2) (mO c.field.points ((bR N c.field.points.length)[i]!).1) c.now)↔(c.certs.list.map fun x=>x.2).Perm (bR N c.field.points.length):=by
 have cl:(c.certs.list.map fun x=>x.2).length=c.certs.list.length:=List.length_map ..
 obtain ⟨_,nd,ld⟩:=tr.edges ok.fld;constructor
 · rintro ⟨h1,h2⟩
   refine (E2 nd (fun x hx=>?_) (by omega)).symm
   obtain ⟨i,hi,rfl⟩:=bD.1 hx;exact GW.1 (h2 i hi).1
 · intro h
   exact ⟨by rw [<- h.length_eq,cl],fun i hi=>⟨GW.2 (h.mem_iff.2 (bF hi)),ld _ (bF hi)⟩⟩
theorem JI {k:dX} (fit:wH k.clock):lN k=some (if oN k then 0 else 8):=by
 unfold lN;rw [nJ fit,aD]
 by_cases ok:bE k.clock
 case neg=>rw [if_neg ok,if_neg (fun h=>ok h.clk)];rfl
 rw [if_pos ok,cQ rfl,cond_false];have bd:=ok.bd;obtain ⟨r,N,h1,h2⟩:=P9 ok.fld ok.nowv ok.now64;have h1:lC k.clock.field k.clock.now=some (⟨r,N⟩,bR N k.clock.field.points.length):=h1;have same: ∀h:oN k,N=k.tree.nodes/\r=k.tree.root:=fun h=>h2.same ok.fld.2.2 h.tree
 rw [h1,aD]
 by_cases hr:r=k.tree.root
 case neg=>rw [dM hr,cond_true,if_neg (fun h=>hr (same h).2)]
 have ln:=h2.len;rw [cQ hr,cond_false,VY,GT N k.tree.nodes (by omega),aD]
 by_cases hn:N=k.tree.nodes
 case neg=>rw [aM hn,if_neg (fun h=>hn (same h).1)];rfl
 have el:=nK N k.clock.field.points.length;rw [aP hn,Bool.not_true,cond_false];show (tV k.clock (bR N k.clock.field.points.length)).bind _=_;rw [aIo k.clock _ (by omega) (by omega),aD]
 have iff:=JH ok h2
 by_cases hj:(bR N k.clock.field.points.length).length=k.clock.certs.list.length/\ ∀i,i<k.clock.certs.list.length->(k.clock.certs.list[i]!).2∈bR N k.clock.field.points.length
 · rw [aP hj,if_pos (show oN k from ⟨ok,by rw [<- hn,<- hr];exact h2,by rw [<- hn];exact iff.1 hj⟩)];rfl
 · rw [aM hj,if_neg (fun h:oN k=>hj (iff.2 (by rw [hn];exact h.cert)))];rfl
theorem MO {k:dX} (fit:wH k.clock):jK k=some (if oN k then 0 else 8):=by
 unfold jK;rw [MK fit,aD]
 by_cases ok:bE k.clock
 case neg=>rw [if_neg ok,if_neg (fun h=>ok h.clk)];rfl
 rw [if_pos ok,cQ rfl,cond_false];have bd:=ok.bd;obtain ⟨r,N,h1,h2⟩:=OC ok.fld (t:=k.clock.now) ok.now64;have h1:rX k.clock.field k.clock.now=some ⟨r,N⟩:=h1;have same: ∀h:oN k,N=k.tree.nodes/\r=k.tree.root:=fun h=>h2.same ok.fld.2.2 h.tree
 have ln:=h2.len;have keta:k.tree=⟨k.tree.root,k.tree.nodes⟩:=rfl;rw [h1,aD,keta,YE _ _ _ _ (by omega),aD]
 by_cases hn:r=k.tree.root/\N=k.tree.nodes
 case neg=>rw [aM hn,if_neg (fun h:oN k=>hn ⟨(same h).2,(same h).1⟩)];rfl
 have el:=nK N k.clock.field.points.length;obtain ⟨eok,_,_⟩:=h2.edges ok.fld;rw [aP hn,Bool.not_true,cond_false,P8 h2 (by omega),aD,ln,aIh ok _ eok.kn,aD]
 have iff:=QA ok h2
 by_cases hj:k.clock.certs.list.length=(bR N k.clock.field.points.length).length/\ ∀i,i<(bR N k.clock.field.points.length).length->wF k.clock.certs.list (bR N k.clock.field.points.length)[i]!/\gQ (mO k.clock.field.points ((bR N k.clock.field.points.length)[i]!).2) (mO k.clock.field.points ((bR N k.clock.field.points.length)[i]!).1) k.clock.now
 · rw [aP hj,if_pos (show oN k from ⟨ok,by rw [<- hn.1,<- hn.2];exact h2,by rw [<- hn.2];exact iff.1 hj⟩)];rfl
 · rw [aM hj,if_neg (fun h:oN k=>hj (iff.2 (by rw [hn.2];exact h.cert)))];rfl
structure QB (k:dX):Prop where
 c:TD k.clock
 n:k.tree.nodes.length<=1000
theorem wI:QB ⟨dD,⟨0,[]⟩⟩:=⟨M1,Nat.zero_le _⟩
theorem TL {k:dX} (h:QB k):AX k k=some true:=by
 have hn:=h.n;unfold AX;rw [VV h.c,aD,cond_true,show pT k.tree k.tree=_ from YE k.tree.root k.tree.root k.tree.nodes k.tree.nodes (by omega),aD,aP ⟨rfl,rfl⟩]
theorem QC (k:dX):tN k=some true\/(tN k=some false/\QB k):=by
 unfold tN CD
 rcases TF k.clock with e|⟨e,sh⟩
 · rw [e];exact .inl rfl
 rw [e,aD,cond_false,aD,aF]
 by_cases h:70<k.tree.nodes.length
 · rw [aP (by omega)];exact .inl rfl
 · rw [aM (by omega)];exact .inr ⟨rfl,sh,by omega⟩
theorem VZ {c:aQ} (ok:bE c) {f:List Pt} (fok:cP f) {N:List Nd} {r:Int} (tr:hO f c.now N r):
 ∃R:aQ×Int,pM c ⟨f⟩ (bR N f.length)=some R/\mG c ⟨f⟩ (bR N f.length)=some R/\(R.2=0/\TB c f (bR N f.length) R.1\/R=(dD,18)):=by
 have f1:=fok.1;obtain ⟨eok,nd,_⟩:=tr.edges fok;have el:=nK N f.length;obtain ⟨R,r1,r2,r3⟩:=aId ok fok eok;have ee:nY f (bR N f.length)=0:=by
  unfold nY;rw [if_neg (Classical.not_not.2 eok.cv),if_neg (Classical.not_not.2 nd),if_neg (fun h=>h eok.kn)]
 have rn:=MN ok fok (es:=bR N f.length) (by omega) (fun _=>r1)
 rw [if_pos ee] at rn;exact ⟨R,rn,r2,r3⟩
end Go.Proofs.YticklbjcnimggaaGreat
namespace Go.Proofs.YticklbjcnimggaaGreat
open Go.Vm Classical
end Go.Proofs.YticklbjcnimggaaGreat
namespace Go.Proofs.YticklbjcnimggaaGreat
open Go.Vm Classical
end Go.Proofs.YticklbjcnimggaaGreat
namespace Go.Proofs.YticklbjcnimggaaGreat
open Go.Vm Classical
end Go.Proofs.YticklbjcnimggaaGreat
namespace Go.Proofs.YticklbjcnimggaaGreat
open Go.Vm Classical
structure aSU (c:aQ) (f:List Pt) (k:dX):Prop where
 ren:TB c f (bR k.tree.nodes f.length) k.clock
 tree:hO f c.now k.tree.nodes k.tree.root
theorem DQ {c:aQ} (ok:bE c) {f:List Pt} (fok:cP f):
 ∃R:dX×Int,kI c ⟨f⟩=some R/\mH c ⟨f⟩=some R/\(R.2=0/\aSU c f R.1\/R=(⟨dD,⟨0,[]⟩⟩,18)):=by
 have f1:=fok.1;obtain ⟨r,N,h1,h2⟩:=P9 fok ok.nowv ok.now64;obtain ⟨r',N',g1,g2⟩:=OC fok (t:=c.now) ok.now64;obtain ⟨e1,e2⟩:=g2.same fok.2.2 h2;subst e1 e2;have ln:=h2.len;obtain ⟨R,r1,r2,r3⟩:=VZ ok fok h2;have eo:=P8 h2 (by omega)
 rw [ln] at eo;rcases r3 with ⟨q0,qq⟩|he
 · refine ⟨(⟨R.1,⟨r',N'⟩⟩,0),?_,?_,.inl ⟨rfl,qq,h2⟩⟩
   · unfold kI
     simp only [h1,aD,r1,q0,show ((0:Int) !=0)=false from rfl,cond_false]
   · unfold mH
     simp only [g1,aD,eo,r2,q0,show ((0:Int) !=0)=false from rfl,cond_false]
 · refine ⟨(⟨dD,⟨0,[]⟩⟩,18),?_,?_,.inr rfl⟩
   · unfold kI
     simp only [h1,aD,r1,he,show ((18:Int) !=0)=true from rfl,cond_true]
   · unfold mH
     simp only [g1,aD,eo,r2,he,show ((18:Int) !=0)=true from rfl,cond_true]
def hP (c:aQ) (r:Int) (N:List Nd) (to:Int×Int) (out:List (Int×Int)):=
 (c.now.1,c.now.2,c.field.points,c.certs.next_,c.certs.list,c.agenda.slots.uses,c.agenda.slots.used,c.agenda.slots.free,c.agenda.heap,c.agenda.where_,c.due,r,N,to.1,to.2,(0:Int),(0:Int),(0:Int),(0:Int),out)
end Go.Proofs.YticklbjcnimggaaGreat
namespace Go.Proofs.YticklbjcnimggaaGreat
open Go.Vm Classical
def wJ:aR:=⟨List.replicate 200 0,List.replicate 200 false,(List.range 200).map fun j:Nat=>(199:Int) - (j:Int)⟩
def GZ:aI:=⟨wJ,[],List.replicate 200 (-1)⟩
def MP (f:Field) (t:Int×Int):aQ:=⟨t,f,⟨0,[]⟩,GZ,[]⟩
theorem TM:F7 200=some (wJ,0):=
 (by kernel_rfl:F7 200=aH IV (200,200,0,List.replicate 200 0,List.replicate 200 false,List.replicate 200 0)).trans (lA.2 ⟨300,by kernel_rfl⟩)
theorem Z0:jE [-1] 200=some (List.replicate 200 (-1)):=by
 unfold jE xX;have m:gB (aA .u64 (Int.ofNat ([-1]:List Int).length)) (aA .u64 200)=some (0,200):=by
  rw [show aA .u64 (Int.ofNat ([-1]:List Int).length)=1 from by kernel_rfl,show aA .u64 200=200 from by kernel_rfl,GG ⟨by decide,by decide⟩ ⟨by decide,by decide⟩]
  rfl
 rw [m];exact (by kernel_rfl:_=aH mV (1,-1::List.replicate 199 0)).trans (lA.2 ⟨20,by kernel_rfl⟩)
theorem M2:AL 200=some (GZ,0):=by
 unfold AL;rw [TM,aD,cQ rfl,cond_false,Z0];rfl
theorem V0:xC 200=some wJ:=
 (by kernel_rfl:xC 200=aH CJ (199,List.replicate 200 0,List.replicate 200 false,[])).trans (lA.2 ⟨300,by kernel_rfl⟩)
theorem V1:xD 200=some GZ:=by
 unfold xD;rw [V0,aD];exact lA.2 ⟨300,by kernel_rfl⟩
theorem V2 {f:Field} (hf:f.points.length<=64) (t:Int×Int):xE f t=some (MP f t):=by
 unfold xE mZ;rw [bC (by omega),aD,aD,V1]
 rfl
theorem QD (f:Field) {t:Int×Int} (r64:oA t):C6 f t=some (if jL f.points≠0 then (dD,jL f.points) else if bU t then (MP f t,0) else (dD,8)):=by
 unfold C6;rw [kU,aD]
 by_cases h:jL f.points=0
 · have fok:=jM.1 h
   have f1:=fok.1;rw [cQ h,cond_false,eZ r64,aD,if_neg (show¬jL f.points≠0 from fun k=>k h)]
   by_cases rt:bU t
   · rw [if_pos rt,if_pos rt,cQ rfl,cond_false,M2,aD,bC (show f.points.length<=1048576 by omega),aD]
     rfl
   · rw [if_neg rt,if_neg rt,dM (by decide),cond_true]
 · rw [dM h,cond_true,if_pos h]
theorem CU {α:Type} [Inhabited α] {n i:Nat} (a:α) (h:i<n):(List.replicate n a)[i]! =a:=by
 rw [getElem!_pos _ i (by rw [List.length_replicate];exact h),List.getElem_replicate]
theorem aIp {i:Nat} (hi:i<200):(i:Int)∈wJ.free:=by
 refine List.mem_map.2 ⟨199-i,List.mem_range.2 (by omega),?_⟩
 show (199:Int) - ((199-i:Nat):Int)=(i:Int);omega
theorem oO:wJ.uses.length=200:=List.length_replicate ..
set_option maxRecDepth 100000 in
theorem aB6:wJ.free.length=200:=by
 unfold wJ;exact (List.length_map _).trans List.length_range
theorem Z1:eJ wJ where
 n1:=by rw [oO];omega
 n2:=by rw [oO];omega
 ul:=by rw [oO];exact List.length_replicate ..
 fr:=fun x hx=>by
  obtain ⟨j,hj,rfl⟩:=List.mem_map.1 hx
  have:=List.mem_range.1 hj
  rw [oO];omega
 fd:=by
  refine E3 List.nodup_range fun i hi j hj h=>?_
  have h:(199:Int) - (i:Int)=199- (j:Int):=h;omega
 uf:=fun i hi=>by
  rw [oO] at hi;rw [show wJ.used[i]! =false from CU false hi];constructor
  · intro h;cases h
  · intro h;exact absurd (aIp hi) h
 us:=fun i hi=>by
  rw [oO] at hi;rw [show wJ.uses[i]! =0 from CU 0 hi,show wJ.used[i]! =false from CU false hi];exact ⟨by decide,by decide,fun h=>by cases h⟩
set_option maxRecDepth 100000 in
theorem V3:eN GZ where
 so:=Z1
 wl:=(List.length_replicate (n:=200) (a:=(-1:Int))).trans oO.symm
 hl:=((Nat.zero_add _).trans aB6).trans oO.symm
 fwd:=fun i hi h=>by
  rw [show GZ.slots.used[i]! =false from CU false (by rw [<- oO];exact hi)] at h
  cases h
 un:=fun i hi _=>CU (-1) (by rw [<- oO];exact hi)
 ev:=fun w hw=>absurd hw (Nat.not_lt_zero w)
 nd:=fun v w _ hw=>absurd hw (Nat.not_lt_zero w)
 ord:=fun k _ hk=>absurd hk (Nat.not_lt_zero k)
theorem Z2 {f:Field} (fok:cP f.points) {t:Int×Int} (r:bU t) (r64:oA t):bE (MP f t) where
 nowv:=r
 now64:=r64
 fld:=fok
 crt:=(⟨by decide,by decide,by decide,fun i hi=>absurd hi (Nat.not_lt_zero i),fun i hi=>absurd hi (Nat.not_lt_zero i),fun i j _ hj=>absurd hj (Nat.not_lt_zero j),fun i j _ hj=>absurd hj (Nat.not_lt_zero j)⟩:eK ⟨0,[]⟩)
 agd:=V3
 w200:=List.length_replicate ..
 hd:=rfl
 known:=fun i hi=>absurd hi (Nat.not_lt_zero i)
 fol:=rfl
end Go.Proofs.YticklbjcnimggaaGreat
namespace Go.Proofs.YticklbjcnimggaaGreat
open Go.Vm Classical
noncomputable def YF (f:List Pt) (t:Int×Int) (k:Nat):Nat->Nat
 |0=>0
 |j+1=>YF f t k j+(if j≠k/\FA f t j k then 1 else 0)
theorem V4 (f:List Pt) (t:Int×Int) (k:Nat): ∀j,YF f t k j<=j/\(k<j->YF f t k j+1<=j)
 |0=>⟨Nat.le_refl _,fun h=>by omega⟩
 |j+1=>by
  obtain ⟨h1,h2⟩:=V4 f t k j;rw [YF]
  by_cases c:j≠k/\FA f t j k
  · rw [if_pos c]
    exact ⟨by omega,fun h=>by have:=h2 (by omega);omega⟩
  · rw [if_neg c]
    exact ⟨by omega,fun h=>by omega⟩
theorem QE {f:List Pt} (h:iY f) {t:Int×Int} {i:Nat} (tp:wC (FA f t) 0 f.length i): ∀j,j<=f.length->YF f t i j=0
 |0,_=>rfl
 |j+1,hj=>by
  have hi:=tp.hi;rw [YF,QE h tp j (by omega),if_neg (fun w=>(JY h t).asy j i (by omega) hi w.2 (tp.top j (Nat.zero_le _) (by omega) w.1))]
theorem OE {f:List Pt} {t:Int×Int} {i k:Nat} (tp:wC (FA f t) 0 f.length i) (hk:k<f.length) (hne:k≠i): ∀j,i<j->1<=YF f t k j
 |0,h=>by omega
 |j+1,h=>by
  rw [YF]
  by_cases q:i=j
  · rw [if_pos ⟨by omega,by rw [<- q];exact tp.top k (Nat.zero_le _) hk hne⟩];omega
  · have:=OE tp hk hne j (by omega);omega
theorem Z3 {f:List Pt} (fok:cP f) {t:Int×Int} (r64:oA t) {k:Nat} (hk:k<f.length):uX ⟨f⟩ f[k]! t=some (YF f t k f.length:Int):=by
 have f1:=fok.1;have key:=bV (body:=lY) (fun j=>((YF f t k j:Int),(j:Int),f,(f[k]!).1,(f[k]!).2.1,(f[k]!).2.2,t)) f.length (fun j hj=>by
  have g:=aE f j hj;have le:=(V4 f t k j).1;have ld:=GI (fok.2.1 _ (bF hj)) (fok.2.1 _ (bF hk)) r64;have peta:((f[k]!).1,(f[k]!).2.1,(f[k]!).2.2)=f[k]!:=rfl;unfold lY;rw [YF]
  by_cases q:j=k
  · subst q
    simp only [aF,aP (show (j:Int)<(f.length:Int) by omega),cond_true,g,aD,cQ rfl,cond_false,aX (show j<1000000000 by omega),if_neg (show¬(j≠j/\FA f t j j) from fun w=>w.1 rfl),Nat.add_zero]
  · have ne:(f[j]!).1≠(f[k]!).1:=fun h=>q (sC fok.2.2 hj hk h)
    by_cases c:FA f t j k
    · rw [show decide (gQ f[j]! f[k]! t)=true from aP c] at ld
      simp only [aF,aP (show (j:Int)<(f.length:Int) by omega),cond_true,g,aD,dM ne,peta,ld,aX (show j<1000000000 by omega),aX (show YF f t k j<1000000000 by omega),if_pos (show j≠k/\FA f t j k from ⟨q,c⟩)]
    · rw [show decide (gQ f[j]! f[k]! t)=false from aM c] at ld
      simp only [aF,aP (show (j:Int)<(f.length:Int) by omega),cond_true,g,aD,dM ne,peta,ld,cond_false,aX (show j<1000000000 by omega),if_neg (show¬(j≠k/\FA f t j k) from fun w=>c w.2),Nat.add_zero])
 unfold uX;rw [show aH lY (0,0,f,(f[k]!).1,(f[k]!).2.1,(f[k]!).2.2,t)=_ from key];refine aL ?_;unfold lY;simp only [aF,aM (show¬(f.length:Int)<(f.length:Int) by omega),cond_false]
noncomputable def QF (f:List Pt) (t:Int×Int):Nat->List Int
 |0=>List.replicate f.length 0
 |i+1=>(QF f t i).set (YF f t i f.length) (f[i]!).1
theorem G0 (f:List Pt) (t:Int×Int): ∀i,(QF f t i).length=f.length
 |0=>List.length_replicate ..
 |i+1=>by rw [QF,List.length_set,G0 f t i]
theorem MQ {f:List Pt} (h:iY f) {t:Int×Int} {i:Nat} (tp:wC (FA f t) 0 f.length i): ∀j,j<=f.length->i<j->(QF f t j)[0]! =(f[i]!).1
 |0,_,hi=>by omega
 |j+1,hj,hi=>by
  have hn:=tp.hi;rw [QF,bB]
  by_cases q:j=i
  · subst q
    rw [if_pos ⟨by rw [QE h tp _ (Nat.le_refl _)],by rw [QE h tp _ (Nat.le_refl _),G0];omega⟩]
  · have:=OE tp (show j<f.length by omega) q f.length hn
    rw [if_neg (fun w=>by omega)]
    exact MQ h tp j (by omega) (by omega)
theorem V5 {f:List Pt} (fok:cP f) {t:Int×Int} (r64:oA t):oK ⟨f⟩ t=some (QF f t f.length):=by
 have f1:=fok.1;have mk:tJ (f.length:Int) (0:Int)=some (List.replicate f.length 0):=by
  unfold tJ;rw [if_pos ⟨by omega,by omega⟩,Int.toNat_natCast]
 have key:=bV (body:=kO) (fun i=>((i:Int),f,t.1,t.2,QF f t i)) f.length (fun i hi=>by
  have g:=aE f i hi;have le:=(V4 f t i f.length).2 hi;have go:=aE (QF f t i) (YF f t i f.length) (by rw [G0];omega)
  unfold kO;simp only [aF,aP (show (i:Int)<(f.length:Int) by omega),cond_true,g,aD,show ((t.1,t.2):Int×Int)=t from rfl,Z3 fok r64 hi,go,lZ,aX (show i<1000000000 by omega)]
  rfl)
 unfold oK;simp only [aF,beq_self_eq_true,cond_true,mk,aD];rw [show aH kO (0,f,t.1,t.2,List.replicate f.length 0)=_ from key];refine aL ?_;unfold kO;simp only [aF,aM (show¬(f.length:Int)<(f.length:Int) by omega),cond_false]
theorem G1 (f:Field) {t:Int×Int} (r64:oA t): ∃R:dX×Int,nS f t=some R/\pS f t=some R/\QB R.1:=by
 have cn:=QD f r64
 by_cases h:jL f.points=0
 case neg=>
  rw [if_pos h] at cn;refine ⟨(⟨dD,⟨0,[]⟩⟩,jL f.points),?_,?_,wI⟩
  · unfold nS
    rw [cn,aD,dM h,cond_true]
  · unfold pS
    rw [qX,aD,dM h,cond_true,aD]
 rw [if_neg (show¬jL f.points≠0 from fun k=>k h)] at cn
 have fok:=jM.1 h;have f1:=fok.1
 by_cases rt:bU t
 case neg=>
  rw [if_neg rt] at cn;refine ⟨(⟨dD,⟨0,[]⟩⟩,8),?_,?_,wI⟩
  · unfold nS
    rw [cn,aD,dM (by decide),cond_true]
  · unfold pS
    rw [qX,aD,cQ h,cond_false,qW r64,if_neg rt,aD,dM (by decide),cond_true]
 rw [if_pos rt] at cn;obtain ⟨R,r1,r2,r3⟩:=DQ (Z2 fok rt r64) fok;have r1:kI (MP f t) f=some R:=r1;have r2:mH (MP f t) f=some R:=r2;refine ⟨R,?_,?_,?_⟩
 · unfold nS
   rw [cn,aD,cQ rfl,cond_false,r1,aD]
 · unfold pS
   rw [qX,aD,cQ h,cond_false,qW r64,if_pos rt,aD,cQ rfl,cond_false,V2 f1 t,aD,r2,aD]
 · rcases r3 with ⟨_,q⟩|e
   · exact ⟨q.ren.ok.short,by have:=q.tree.len;omega⟩
   · rw [e];exact wI
theorem zJ (f:Field) (t:Int×Int) (k:dX) (r64:oA t) (n:aIe k.clock):pC f t k=some true:=by
 unfold pC;rcases I5 f with e|⟨e,_⟩
 · rw [e];rfl
 rw [e,aD,cond_false];rcases QC k with e|⟨e,sh⟩
 · rw [e];rfl
 rw [e,aD,cond_false];obtain ⟨R,b1,b2,b3⟩:=G1 f r64;have fit:wH k.clock:=⟨n.now,⟨sh.c.s3,sh.c.h,sh.c.w,n.at64⟩,sh.c.d⟩;have c1:=JI fit;have c2:=MO fit
 have main: ∃(a:List (Int×Int)×Int) (b:Int×Int) (m:Int),qQ k=some a/\tY k=some a/\mI k=some b/\nV k=some b/\lN k=some m/\jK k=some m/\a.1.length<=1000:=by
  by_cases ok:oN k
  case neg=>
   rw [if_neg ok] at c1 c2;refine ⟨([],8),(0,8),8,?_,?_,?_,?_,c1,c2,Nat.zero_le _⟩
   · unfold qQ;rw [c1];rfl
   · unfold tY;rw [c2];rfl
   · unfold mI;rw [c1];rfl
   · unfold nV;rw [c2];rfl
  rw [if_pos ok] at c1 c2;have fok:=ok.clk.fld;have f1:=fok.1;have tr:=ok.tree;have ln:=tr.len;obtain ⟨r,N,m1,m2⟩:=P9 fok ok.clk.nowv ok.clk.now64;obtain ⟨q1,q2⟩:=m2.same fok.2.2 tr;have m1:lC k.clock.field k.clock.now=some (⟨r,N⟩,bR N k.clock.field.points.length):=m1;rw [q1] at m1;have of:=P8 tr (by omega)
  have of:vV k.tree=some (bR k.tree.nodes k.tree.nodes.length):=of;rw [ln] at of;have el:=nK k.tree.nodes k.clock.field.points.length;have led: ∃b:Int×Int,mI k=some b/\nV k=some b:=by
   have tt:=tr.tree;unfold mI nV;rw [c1,c2,aD,aD,cQ rfl,cond_false,cond_false,aF];generalize hr:k.tree.root=rt at tt ⊢;cases tt with
   |nil h0=>
    refine ⟨(0,42),?_,?_⟩
    · rw [aP (by decide),cond_true]
    · rw [gO (by omega),cond_true]
   | @node _ _ i tp _ _=>
    have hi:=tp.hi;refine ⟨((k.clock.field.points[i]!).1,0),?_,?_⟩
    · rw [aM (by omega),cond_false,aE k.tree.nodes i (by omega),aD,tr.ids i hi]
    · have g:=aE (QF k.clock.field.points k.clock.now k.clock.field.points.length) 0 (by rw [G0];omega)
      rw [show ((0:Nat):Int)=0 from rfl,MQ fok.2.2 tp _ (Nat.le_refl _) hi] at g;rw [fW (by omega),cond_false,show oK k.clock.field k.clock.now=_ from V5 fok ok.clk.now64,aD,g,aD]
  obtain ⟨b,l1,l2⟩:=led;refine ⟨(bR k.tree.nodes k.clock.field.points.length,0),b,0,?_,?_,l1,l2,c1,c2,by show (bR k.tree.nodes k.clock.field.points.length).length<=1000;omega⟩
  · unfold qQ
    rw [c1,aD,cQ rfl,cond_false,m1,aD]
  · unfold tY
    rw [c2,aD,cQ rfl,cond_false,of,aD]
 obtain ⟨a,b,m,m1,m2,m3,m4,m5,m6,m7⟩:=main;simp only [b1,b2,aD,m1,m2,m3,m4,TL b3,cond_true,m5,m6,beq_self_eq_true,VW a.1 (by omega)]
end Go.Proofs.YticklbjcnimggaaGreat
namespace Go.Proofs.YticklbjcnimggaaGreat
open Go.Vm Classical
theorem aIe.of {c:aQ} (h1:RT.wf [.i .i64,.i .i64] c.now) (h2: ∀a∈c.agenda.heap,RT.wf [.i .i64,.i .i64,.i .i64,.i .i64,.i .i64] a):aIe c where
 now:=⟨HS h1.1,HS h1.2⟩
 at64 w hw:=by
  have:=h2 (c.agenda.heap[w]!) (by rw [getElem!_pos c.agenda.heap w hw];exact List.getElem_mem hw)
  exact ⟨HS this.1,HS this.2.1⟩
end Go.Proofs.YticklbjcnimggaaGreat
