/- Plain laws (3). -/
import Derived.Test.YtbncnimfgdelaaaGreatFEQM2
import Derived.Test.YtbncnimfgdelaaaGreatFEQS1
namespace Go.Proofs.YtbncnimfgdelaaaGreat
open Go.Vm Classical
theorem bH.bd {c:aR} (ok:bH c):c.due.length<=200/\c.field.points.length<=64/\c.certs.list.length<=200:=by
 have:=ok.hd;have:=ok.agd.bd;have:=ok.fld.1;have:=ok.crt.len
 omega
theorem qR {c:aR} (ok:bH c):pP c=some c:=by
 have bd:=ok.bd;unfold pP DM yI;simp only [bG (show c.field.points.length<=1048576 by omega),bG (show c.certs.list.length<=1048576 by omega),bG (show c.due.length<=1048576 by omega),aF,CQ ok.agd]
theorem vS {c:aR} (ok:bH c):kL c=some c:=by
 have bd:=ok.bd;have ab:=ok.agd.bd;have hl:=ok.agd.so.fl;have hn:=ok.agd.so.n2;have hu:=ok.agd.so.ul;unfold kL;simp only [bG (show c.field.points.length<=1048576 by omega),bG (show c.certs.list.length<=1048576 by omega),bG (show c.due.length<=1048576 by omega),bG (show c.agenda.heap.length<=1048576 by omega),bG (show c.agenda.where_.length<=1048576 by omega),
  bG (show c.agenda.slots.uses.length<=1048576 by omega),bG (show c.agenda.slots.used.length<=1048576 by omega),bG (show c.agenda.slots.free.length<=1048576 by omega),aF]
abbrev iF:aR:=⟨(0,0),⟨[]⟩,⟨0,[]⟩,⟨⟨[],[],[]⟩,[],[]⟩,[]⟩
theorem aAH {l:List Pt} (ok:bC l) {id:Int} (h:mQ l id): ¬(eJ l id).1<0:=by
 obtain ⟨h1,_⟩:=jK ok h
 have:=h1.1
 omega
theorem aGA {c:aR} (ok:bH c) {x:Int×Int} (hx:eT x) (hb:jZ c.field.points x) (hn: ¬tX c.certs.list x):
 (hJ c x=some (iF,0,18)/\lU c x=some (iF,0,18)/\(E9 c.certs\/ ¬AR c.agenda.slots))\/
 ∃c':aR,hJ c x=some (c',c.certs.next_,0)/\lU c x=some (c',c.certs.next_,0)/\bH c'/\c'.field=c.field/\c'.now=c.now/\c'.certs=oO c.certs x/\(c'.agenda.slots=c.agenda.slots\/c'.agenda.slots=gC c.agenda.slots):=by
 have bd:=ok.bd;have n0:=ok.crt.n0;have n1:=ok.crt.n1;have fit:=ok.fit;have ad:=RM ok.crt hx;have rd:=OO ok.crt hx;rw [if_neg hn] at ad rd;have hc:fZ c=some 0:=by rw [AW fit,if_pos ok]
 have p1:=oP ok.fld x.1;have p2:=oP ok.fld x.2;have q1:=aAH ok.fld hb.1;have q2:=aAH ok.fld hb.2;have wh:=CU ok.fld hx ok.nowv ok.now64;rw [if_pos hb] at wh;have rw':=CV ok.fld ok.now64 hb
 by_cases hf:E9 c.certs
 · rw [if_pos hf] at ad rd
   left;refine ⟨?_,?_,.inl hf⟩
   · unfold hJ cQ
     simp only [hc,aF,show ((0:Int) !=0)=false from rfl,cond_false,ad,show ((18:Int)==8)=false from rfl,p1,p2,aL q1,aL q2,show ((18:Int) !=0)=true from rfl,cond_true]
   · unfold lU
     simp only [rd,aF,show ((18:Int) !=0)=true from rfl,cond_true]
 rw [if_neg hf] at ad rd;have cok:=T6 ok.crt hx hn hf;have known': ∀j,j<(oO c.certs x).list.length->jZ c.field.points ((oO c.certs x).list[j]!).2:=by
  intro j hj;rw [BS] at hj;rw [tY]
  by_cases h:j<c.certs.list.length
  · rw [if_pos h];exact ok.known j h
  · rw [if_neg h,if_pos (by omega)];exact hb
 have fresh: ∀e∈c.agenda.heap,Ev.num e≠c.certs.next_:=by
  intro e he hne;obtain ⟨d,hd,h1⟩:=ok.nums e he;obtain ⟨y,hy,h2,_⟩:=ok.fol.due d hd;obtain ⟨j,hj,rfl⟩:=bE.1 hy
  have:=(ok.crt.nr j hj).2
  omega
 have sn:=ok.fol.snoc (x:=(c.certs.next_,x));cases hw:(bP c.field.points x c.now).2 with
 |false=>
  right;refine ⟨⟨c.now,c.field,oO c.certs x,c.agenda,c.due⟩,?_,?_,⟨ok.nowv,ok.now64,ok.fld,cok,ok.agd,ok.w200,ok.hd,known',sn.1 hw⟩,rfl,rfl,rfl,.inl rfl⟩
  · unfold hJ cQ
    simp only [hc,aF,show ((0:Int) !=0)=false from rfl,cond_false,ad,show ((0:Int)==8)=false from rfl,p1,p2,aL q1,aL q2,vS ok,wh,hw]
  · unfold lU
    simp only [rd,aF,show ((0:Int) !=0)=false from rfl,cond_false,qR ok,rw',hw,Bool.not_false,cond_true]
 |true=>
  obtain ⟨t1,t2⟩:=aAu (jK ok.fld hb.2).1 (jK ok.fld hb.1).1 ok.now64 ok.nowv hw
  by_cases op:AR c.agenda.slots
  · right
    have pu:=GO ok.agd op ok.agd.fit (t:=(bP c.field.points x c.now).1) (n:=c.certs.next_) t1 t2 n0 n1 fresh;have rp:=HX ok.agd op (t:=(bP c.field.points x c.now).1) (n:=c.certs.next_) t1 t2 n0 n1;have pok:=aGx ok.agd op (t:=(bP c.field.points x c.now).1) (n:=c.certs.next_) t1 t2 n0 n1 fresh
    have pmem:=aAB ok.agd op (t:=(bP c.field.points x c.now).1) (n:=c.certs.next_) t1;have plen:=K1 ok.agd op (t:=(bP c.field.points x c.now).1) (n:=c.certs.next_) t1;have ap: ∀h:Int×Int,aY c.due [(c.certs.next_,h)]=some (c.due++[(c.certs.next_,h)]):=fun h=>eG (by simp;omega)
    have wlen:(mI c.agenda (bP c.field.points x c.now).1 c.certs.next_).where_.length=200:=by
     have:=pok.wl
     change _=(c.agenda.slots.uses.set _ _).length at this;rw [List.length_set] at this;rw [this,<- ok.agd.wl,ok.w200]
    refine ⟨⟨c.now,c.field,oO c.certs x,mI c.agenda (bP c.field.points x c.now).1 c.certs.next_,c.due++[(c.certs.next_,lF c.agenda.slots)]⟩,?_,?_,⟨ok.nowv,ok.now64,ok.fld,cok,pok,wlen,?_,known',?_⟩,rfl,rfl,rfl,.inr rfl⟩
    · unfold hJ cQ
      simp only [hc,aF,show ((0:Int) !=0)=false from rfl,cond_false,ad,show ((0:Int)==8)=false from rfl,p1,p2,aL q1,aL q2,vS ok,wh,hw,cond_true,pu,ap]
    · unfold lU
      simp only [rd,aF,show ((0:Int) !=0)=false from rfl,cond_false,qR ok,rw',hw,Bool.not_true,CO ok.agd.so,aQ op,rp,ap]
    · show (mI c.agenda (bP c.field.points x c.now).1 c.certs.next_).heap.length=(c.due++[_]).length
      rw [plen,List.length_append,ok.hd];rfl
    · have fm:aU c.field.points c.now (mI c.agenda (bP c.field.points x c.now).1 c.certs.next_).heap c.certs.list c.due:=ok.fol.mono fun y hy e he hm=>(pmem e).2 (.inr hm)
      exact (fm.snoc (x:=(c.certs.next_,x))).2 _ hw rfl ((pmem _).2 (.inl rfl))
  · left
    have pu:=GP ok.agd op ok.agd.fit (t:=(bP c.field.points x c.now).1) (n:=c.certs.next_) t1 t2 n0 n1 fresh;refine ⟨?_,?_,.inr op⟩
    · unfold hJ cQ
      simp only [hc,aF,show ((0:Int) !=0)=false from rfl,cond_false,ad,show ((0:Int)==8)=false from rfl,p1,p2,aL q1,aL q2,vS ok,wh,hw,cond_true,pu,show ((18:Int) !=0)=true from rfl]
    · unfold lU
      simp only [rd,aF,show ((0:Int) !=0)=false from rfl,cond_false,qR ok,rw',hw,Bool.not_true,CO ok.agd.so,aL op,Bool.not_false,cond_true]
section
variable {c : aR} (ok : bH c) {f : List Pt} (fok : bC f) (kn : ∀ i, i < c.certs.list.length -> jZ f (c.certs.list[i]!).2)
include ok
include fok kn
end
theorem CW (l:List (Int×Int)) (x:Int×Int) (hl:l.length<=1000000):eN l x=some (decide (x∈l)):=by
 unfold eN oB;have key:=rQ (body:=iW) (fun i=>(l,(l.length:Int),(i:Int),x)) l.length (fun i=>l[i]! =x) (fun i=>(i:Int)) (e:= -1) (fun i hi=>by
  have e1:decide ((i:Int)<(l.length:Int))=true:=aQ (by omega)
  unfold iW;simp only [e1,cond_true,aD l i hi,aF,aX (show i<1000000000 by omega)]
  generalize l[i]! =y;constructor
  · intro h;rw [gL (congrArg Prod.fst h.symm),gL (congrArg Prod.snd h.symm)];rfl
  · intro h
    by_cases h1:x.1=y.1
    · rw [gL h1,dY (fun h2=>h (Prod.ext h1.symm h2.symm))];rfl
    · rw [dY h1];rfl) (by
  unfold iW
  have:decide ((l.length:Int)<(l.length:Int))=false:=aL (by omega)
  simp only [this,cond_false])
 rw [aH]
 by_cases hx:x∈l
 · obtain ⟨i,hi,he⟩:=bE.1 hx
   obtain ⟨k,h1,h2,h3⟩:=HE (c:=fun i=>l[i]! =x) ⟨i,hi,he⟩
   have:=key.1 k h1 h2 h3
   rw [show ((0:Nat):Int)=0 from rfl] at this;rw [this,aQ hx];simp only [aF,aQ (show (0:Int)<=(k:Int) by omega)]
 · have:=key.2 fun i hi he=>hx (bE.2 ⟨i,hi,he⟩)
   rw [show ((0:Nat):Int)=0 from rfl] at this;rw [this,aL hx];rfl
theorem aAI (x y:DW):((x.1==y.1)&&((x.2.1==y.2.1)&&(x.2.2==y.2.2)))=decide (x=y):=by
 rw [Bool.eq_iff_iff,decide_eq_true_iff];simp only [Bool.and_eq_true,beq_iff_eq];constructor
 · rintro ⟨h1,h2,h3⟩;exact Prod.ext h1 (Prod.ext h2 h3)
 · rintro rfl;exact ⟨rfl,rfl,rfl⟩
theorem RR (a b:List DW) (hl:a.length<=1000000):DN ⟨a⟩ ⟨b⟩=some (decide (a=b)):=by
 unfold DN;simp only [aH]
 by_cases h:a.length=b.length
 case neg=>rw [dL (by omega),aL (fun k=>h (by rw [k]))];rfl
 rw [dA (by omega)]
 simp only [cond_false];have key:=cU (body:=qQ) (fun i=>((i:Int),a,b)) a.length (fun i=> ¬a[i]! =b[i]!) (r:=false) (e:=true) (fun i hi=>by
  have e1:decide ((i:Int)<(a.length:Int))=true:=aQ (by omega)
  unfold qQ;simp only [aH,e1,cond_true,aD a i hi,aD b i (by omega),aF,aX (show i<1000000000 by omega),aAI]
  constructor
  · intro h;rw [aL h];rfl
  · intro h;rw [aQ (Classical.not_not.1 h)];rfl) (by
  unfold qQ
  have:decide ((a.length:Int)<(a.length:Int))=false:=aL (by omega)
  simp only [aH,this,cond_false])
 by_cases he:a=b
 · rw [aQ he]
   exact key.2 fun i hi=>Classical.not_not.2 (by rw [he])
 · rw [aL he]
   refine key.1 (Classical.byContradiction fun hx=>he (rR h fun i hi=>?_))
   exact Classical.byContradiction fun hn=>hx ⟨i,hi,hn⟩
theorem OQ (a b:List DW) (hl:a.length<=1000000):kM a b=some (decide (a=b)):=by
 unfold kM;simp only [aH]
 by_cases h:a.length=b.length
 case neg=>rw [dL (by omega),aL (fun k=>h (by rw [k]))];rfl
 rw [dA (by omega)]
 simp only [cond_false];have key:=cU (body:=iE) (fun i=>(a,b,(a.length:Int),(i:Int))) a.length (fun i=> ¬a[i]! =b[i]!) (r:=false) (e:=true) (fun i hi=>by
  have e1:decide ((i:Int)<(a.length:Int))=true:=aQ (by omega)
  unfold iE;simp only [e1,cond_true,aD a i hi,aD b i (by omega),aF,aX (show i<1000000000 by omega),aAI]
  constructor
  · intro h;rw [aL h];rfl
  · intro h;rw [aQ (Classical.not_not.1 h)];rfl) (by
  unfold iE
  have:decide ((a.length:Int)<(a.length:Int))=false:=aL (by omega)
  simp only [this,cond_false])
 by_cases he:a=b
 · rw [aQ he]
   exact key.2 fun i hi=>Classical.not_not.2 (by rw [he])
 · rw [aL he]
   refine key.1 (Classical.byContradiction fun hx=>he (rR h fun i hi=>?_))
   exact Classical.byContradiction fun hn=>hx ⟨i,hi,hn⟩
def kP (c0:aR) (f:List Pt) (es:List (Int×Int)) (i:Nat) (c:aR):=
 (es,c0.certs.list,(c0.certs.list.length:Int),(i:Int),c.now.1,c.now.2,c.field.points,c.certs.next_,c.certs.list,c.agenda.slots.uses,c.agenda.slots.used,c.agenda.slots.free,c.agenda.heap,c.agenda.where_,c.due,f,(0:Int),(0:Int),(0:Int))
def kR (c0:aR) (f:List Pt) (es:List (Int×Int)) (i:Nat) (c:aR):=
 (es,(i:Int),c0.now.1,c0.now.2,c0.field.points,c0.certs.next_,c0.certs.list,c0.agenda.slots.uses,c0.agenda.slots.used,c0.agenda.slots.free,c0.agenda.heap,c0.agenda.where_,c0.due,f,(0:Int),(0:Int),(0:Int),c.now.1,c.now.2,c.field.points,c.certs.next_,c.certs.list,c.agenda.slots.uses,c.agenda.slots.used,c.agenda.slots.free,c.agenda.heap,c.agenda.where_,c.due)
def eP (es:List (Int×Int)) (i:Nat) (c:aR):=
 (es,(es.length:Int),(i:Int),c.now.1,c.now.2,c.field.points,c.certs.next_,c.certs.list,c.agenda.slots.uses,c.agenda.slots.used,c.agenda.slots.free,c.agenda.heap,c.agenda.where_,c.due,(0:Int),(0:Int),(0:Int))
def eR (es:List (Int×Int)) (i:Nat) (c:aR):=
 (es,(i:Int),(0:Int),(0:Int),(0:Int),c.now.1,c.now.2,c.field.points,c.certs.next_,c.certs.list,c.agenda.slots.uses,c.agenda.slots.used,c.agenda.slots.free,c.agenda.heap,c.agenda.where_,c.due)
def aAJ (c:aR):Int:=c.certs.next_- (c.certs.list.length:Int)
structure HI (c:aR) (f:List Pt) (es:List (Int×Int)) (r:aR):Prop where
 has: ∀e∈es,tX r.certs.list e
 sub: ∀x∈r.certs.list,x.2∈es
 ok:bH r
 fld:r.field.points=f
 now:r.now=c.now
 room:aAJ c<=aAJ r
def HJ (c:aR) (k:Nat):Prop:=c.certs.list.length<=k/\c.certs.next_<=k/\ ∀j,j<c.agenda.slots.uses.length->c.agenda.slots.uses[j]!<=k
theorem aU.len {l:List Pt} {t:Int×Int} {H:List Ev}: ∀{cs ds:List DW},aU l t H cs ds->ds.length<=cs.length
 | [],ds,h=>by rw [show ds=[] from h];exact Nat.le_refl _
 |x::cs,ds,h=>by
  cases hy:(bP l x.2 t).2 with
  |true=>
   obtain ⟨d,ds',rfl,_,_,h4⟩:=h.1 hy;exact Nat.succ_le_succ h4.len
  |false=>exact Nat.le_succ_of_le (h.2 hy).len
theorem HJ.not_full {c:aR} (ok:bH c) {k:Nat} (h:HJ c k) (hk:k<=199): ¬(E9 c.certs\/ ¬AR c.agenda.slots):=by
 obtain ⟨h1,h2,h3⟩:=h;have fl:=ok.fol.len;have hd:=ok.hd;have hl:=ok.agd.hl;have wl:=ok.agd.wl;have w2:=ok.w200;rintro (h|h)
 · rcases h with h|h<;>omega
 · refine h ⟨by omega,?_⟩
   have:=h3 _ (BL ok.agd.so (by omega)).1
   omega
theorem HJ.more {c c':aR} {k:Nat} (h:HJ c k) {x:Int×Int} (hc:c'.certs=oO c.certs x) (hs:c'.agenda.slots=c.agenda.slots\/c'.agenda.slots=gC c.agenda.slots):HJ c' (k+1):=by
 obtain ⟨h1,h2,h3⟩:=h;refine ⟨?_,?_,fun j hj=>?_⟩
 · rw [hc]
   show (c.certs.list++[(c.certs.next_,x)]).length<=_;rw [List.length_append,List.length_singleton];omega
 · rw [hc]
   show c.certs.next_+1<=_;omega
 · rcases hs with e|e
   · rw [e] at hj ⊢
     have:=h3 j hj;omega
   · rw [e] at hj ⊢
     change j<(c.agenda.slots.uses.set _ _).length at hj;rw [List.length_set] at hj;show (c.agenda.slots.uses.set (cI c.agenda.slots) (c.agenda.slots.uses[cI c.agenda.slots]!+1))[j]!<=_;rw [bV];split
     · rename_i h;have:=h3 _ h.2;omega
     · have:=h3 j hj;omega
structure OR (f:List Pt) (es:List (Int×Int)):Prop where
 len:es.length<=1000000
 cv: ∀x∈es,eT x
 kn: ∀x∈es,jZ f x
theorem aAK {f:List Pt} (_fok:bC f) {es:List (Int×Int)} (eok:OR f es):
 ∀(d i:Nat) (c:aR),es.length-i<=d->i<=es.length->bH c->c.field.points=f->(∀x∈c.certs.list,x.2∈es)->(∀j,j<i->tX c.certs.list es[j]!)->
  ∃r:aR×Int,aE dW (eP es i c)=some (.done r)/\aE cY (eR es i c)=some (.done r)/\(r.2=0/\HI c f es r.1\/r=(iF,18))/\(∀k,HJ c k->k+(es.length-i)<=199->r.2=0):=by
 have el:=eok.len;have fin: ∀c:aR,bH c->c.field.points=f->(∀x∈c.certs.list,x.2∈es)->(∀j,j<es.length->tX c.certs.list es[j]!)-> ∃r:aR×Int,aE dW (eP es es.length c)=some (.done r)/\aE cY (eR es es.length c)=some (.done r)/\(r.2=0/\HI c f es r.1\/r=(iF,18))/\r.2=0:=by
  intro c ok hf hs hh;have e1:decide ((es.length:Int)<(es.length:Int))=false:=aL (by omega)
  refine ⟨(c,0),aP ?_,aP ?_,.inl ⟨rfl,fun e he=>by obtain ⟨j,hj,q⟩:=bE.1 he;rw [<- q];exact hh j hj,hs,ok,hf,rfl,Int.le_refl _⟩,rfl⟩
  · unfold dW eP
    simp only [e1,cond_false]
  · unfold cY eR
    simp only [aH,e1,cond_false]
 intro d
 induction d with
 |zero=>
  intro i c hd hi ok hf hs hh
  have:i=es.length:=by omega
  subst this;obtain ⟨r,q1,q2,q3,q4⟩:=fin c ok hf hs hh;exact ⟨r,q1,q2,q3,fun _ _ _=>q4⟩
 |succ d ih=>
  intro i c hd hi ok hf hs hh
  by_cases he:i=es.length
  · subst he
    obtain ⟨r,q1,q2,q3,q4⟩:=fin c ok hf hs hh;exact ⟨r,q1,q2,q3,fun _ _ _=>q4⟩
  have bd:=ok.bd;have hi':i<es.length:=by omega
  have e1:decide ((i:Int)<(es.length:Int))=true:=aQ (by omega)
  have sc:=aX (show i<1000000000 by omega)
  have cg:=aD es i hi';have ceta:(aR.mk (c.now.1,c.now.2) (Field.mk c.field.points) (aZ.mk c.certs.next_ c.certs.list) (aO.mk (aW.mk c.agenda.slots.uses c.agenda.slots.used c.agenda.slots.free) c.agenda.heap c.agenda.where_) c.due)=c:=rfl;have ceta2:aZ.mk c.certs.next_ c.certs.list=c.certs:=rfl;have hc:=RK c.certs.list es[i]! (by omega)
  have hr:=yN c.certs es[i]! (by omega)
  by_cases hin:tX c.certs.list es[i]!
  · have s1:dW (eP es i c)=some (.next (eP es (i+1) c)):=by
     unfold dW eP;simp only [e1,cond_true,cg,aF,GQ,hc,aQ hin,sc]
    have s2:cY (eR es i c)=some (.next (eR es (i+1) c)):=by
     unfold cY eR;simp only [aH,e1,cond_true,cg,aF,ceta2,hr,aQ hin,sc]
    rw [bJ s1,bJ s2];obtain ⟨r,q1,q2,q3,q4⟩:=ih (i+1) c (by omega) (by omega) ok hf hs (fun j hj=>if q:j=i then by rw [q];exact hin else hh j (by omega))
    exact ⟨r,q1,q2,q3,fun k hk hl=>q4 k hk (by omega)⟩
  · have hb:jZ c.field.points es[i]!:=by rw [hf];exact eok.kn _ (bF hi')
    rcases aGA ok (eok.cv _ (bF hi')) hb hin with ⟨r1,r2,full⟩|⟨c',r1,r2,r3,r4,r5,r6,r7⟩
    · refine ⟨(iF,18),aP ?_,aP ?_,.inr rfl,fun k hk hl=>absurd full (hk.not_full ok (by omega))⟩
      · unfold dW eP
        simp only [e1,cond_true,cg,aF,GQ,hc,aL hin,cond_false,ceta,r1,show ((18:Int) !=0)=true from rfl]
      · unfold cY eR
        simp only [aH,e1,cond_true,cg,aF,ceta2,hr,aL hin,cond_false,ceta,r2,show ((18:Int) !=0)=true from rfl]
    · have s1:dW (eP es i c)=some (.next (eP es (i+1) c')):=by
       unfold dW eP;simp only [e1,cond_true,cg,aF,GQ,hc,aL hin,cond_false,ceta,r1,show ((0:Int) !=0)=false from rfl,sc]
      have s2:cY (eR es i c)=some (.next (eR es (i+1) c')):=by
       unfold cY eR;simp only [aH,e1,cond_true,cg,aF,ceta2,hr,aL hin,cond_false,ceta,r2,show ((0:Int) !=0)=false from rfl,sc]
      rw [bJ s1,bJ s2];obtain ⟨r,q1,q2,q3,q6⟩:=ih (i+1) c' (by omega) (by omega) r3 (by rw [r4,hf]) (fun x hx=>by
       rw [r6] at hx;rcases List.mem_append.1 (show x∈c.certs.list++[(c.certs.next_,es[i]!)] from hx) with h|h
       · exact hs x h
       · rw [List.mem_singleton.1 h];exact bF hi') (fun j hj=>by
       rw [r6];show tX (c.certs.list++[(c.certs.next_,es[i]!)]) _
       by_cases q:j=i
       · rw [q];exact ⟨c.certs.list.length,by rw [List.length_append,List.length_singleton];omega,by rw [lV (Nat.le_refl _),Nat.sub_self];rfl⟩
       · obtain ⟨w,w1,w2⟩:=hh j (by omega)
         exact ⟨w,by rw [List.length_append];omega,by rw [lC w1];exact w2⟩)
      refine ⟨r,q1,q2,q3.imp (fun ⟨q4,q5⟩=>⟨q4,q5.has,q5.sub,q5.ok,q5.fld,q5.now.trans r5,Int.le_trans ?_ q5.room⟩) id,fun k hk hl=>q6 (k+1) (hk.more r6 r7) (by omega)⟩
      unfold aAJ;rw [r6];show _<=(c.certs.next_+1) - (((c.certs.list++[(c.certs.next_,es[i]!)]).length:Nat):Int);rw [List.length_append,List.length_singleton];omega
theorem RS {c:aR} (ok:bH c) (h0:c.certs.list=[]) {es:List (Int×Int)} (eok:OR c.field.points es) (hr:HJ c 0) (hl:es.length<=199):
 ∃r:aR,rG c c.field es=some (r,0)/\vQ c c.field es=some (r,0)/\HI c c.field.points es r:=by
 have bd:=ok.bd;have l0:c.certs.list.length=0:=by rw [h0];rfl
 have e1:decide (((0:Nat):Int)<(c.certs.list.length:Int))=false:=aL (by omega)
 have start1:rG c c.field es=aE tM (kP c c.field.points es 0 c):=rfl;have start2:vQ c c.field es=aE pR (kR c c.field.points es 0 c):=by
  unfold vQ;simp only [qR ok,aF];rfl
 obtain ⟨r,i1,i2,i3,i4⟩:=aAK ok.fld eok es.length 0 c (by omega) (by omega) ok rfl (fun x hx=>by rw [h0] at hx;cases hx) (fun j hj=>absurd hj (Nat.not_lt_zero j))
 have r0:=i4 0 hr (by omega)
 have e:r=(r.1,0):=by rw [<- r0]
 rw [e] at i1 i2;refine ⟨r.1,?_,?_,?_⟩
 · rw [start1]
   refine aP ?_;unfold tM kP;simp only [e1,cond_false,OQ c.field.points c.field.points (by omega),aF]
   exact i1
 · rw [start2]
   refine aP ?_;unfold pR kR;simp only [aH,e1,cond_false,RR c.field.points c.field.points (by omega),aF]
   exact i2
 · rcases i3 with ⟨_,h⟩|h
   · exact h
   · rw [h] at r0;cases r0
theorem K6 {α:Type} [Inhabited α] {l:List α}:l.Nodup↔ ∀k,k<l.length->l[k]!∉l.take k:=by
 rw [dR];constructor
 · intro h k hk hm
   obtain ⟨i,h1,h2,h3⟩:=eA.1 hm;exact h i k h1 hk h3
 · intro h i j hij hj he
   exact h j hj (eA.2 ⟨i,hij,by omega,he⟩)
theorem FA {α:Type} [Inhabited α] {l:List α} {P:α->Prop}:(∀x∈l,P x)↔ ∀i,i<l.length->P l[i]!:=by
 constructor
 · intro h i hi;exact h _ (bF hi)
 · intro h x hx
   obtain ⟨i,hi,rfl⟩:=bE.1 hx;exact h i hi
theorem OS {σ ρ:Type} {body:σ->Option (bO σ ρ)} (st:Nat->σ) (n:Nat) (P:Nat->Prop) {r e:ρ} (h: ∀i,i<n->(¬P i->body (st i)=some (.done r))/\(P i->body (st i)=some (.next (st (i+1)))))
 (hend:body (st n)=some (.done e)):aE body (st 0)=some (if∀i,i<n->P i then e else r):=by
 have key:=cU (body:=body) st n (fun i=> ¬P i) (r:=r) (e:=e) (fun i hi=>⟨(h i hi).1,fun hn=>(h i hi).2 (Classical.not_not.1 hn)⟩) hend
 by_cases hx: ∀i,i<n->P i
 · rw [if_pos hx];exact key.2 fun i hi=>Classical.not_not.2 (hx i hi)
 · rw [if_neg hx]
   obtain ⟨i,h⟩:=Classical.not_forall.1 hx;obtain ⟨hi,hx⟩:=Classical.not_imp.1 h;exact key.1 ⟨i,hi,hx⟩
theorem CX {f:List Pt} (fok:bC f) (id:Int): ∃p e,tJ ⟨f⟩ id=some (p,e)/\(e=0↔mQ f id):=by
 have h1:=fok.1;have hc:hH ⟨f⟩=some 0:=by rw [oN];exact congrArg some (kH.2 fok)
 have bs:=V3 f id (by omega) (fun i j=>pT fok.2.2)
 unfold tJ AH DI;rw [aGy];simp only [hc,aF,show ((0:Int) !=0)=false from rfl,cond_false]
 by_cases h:mQ f id
 · obtain ⟨k,hk,he⟩:=h
   rw [bs.1 k hk he];refine ⟨f[k]!,0,?_,fun _=>⟨k,hk,he⟩,fun _=>rfl⟩
   simp only [aF,Bool.not_true,cond_false,show ((0:Int) !=0)=false from rfl,aD f k hk]
 · obtain ⟨m,_,_,_,e⟩:=bs.2 (fun k hk he=>h ⟨k,hk,he⟩)
   rw [e];exact ⟨(0,0,0),6,rfl,fun h=>(by cases h),fun k=>absurd k h⟩
structure aNA (c:aR):Prop where
 now:oS c.now
 at64: ∀w,w<c.agenda.heap.length->oS ((c.agenda.heap[w]!).1,(c.agenda.heap[w]!).2.1)
theorem RU (f:Field):rH f=some true\/(rH f=some false/\f.points.length<=70):=by
 unfold rH
 simp only [aH]
 by_cases h1:16<f.points.length
 · rw [aQ (show (16:Int)<(f.points.length:Int) by omega)]
   by_cases h2:f.points.length<64
   · rw [aQ (show (f.points.length:Int)<64 by omega)];exact .inl rfl
   · rw [aL (show¬(f.points.length:Int)<64 by omega)]
     by_cases h3:70<f.points.length
     · rw [aQ (show (70:Int)<(f.points.length:Int) by omega)];exact .inl rfl
     · rw [aL (show¬(70:Int)<(f.points.length:Int) by omega)];exact .inr ⟨rfl,by omega⟩
 · rw [aL (show¬(16:Int)<(f.points.length:Int) by omega),aL (show¬(70:Int)<(f.points.length:Int) by omega)]
   exact .inr ⟨rfl,by omega⟩
theorem aGB (p q:Pt) (t:Int×Int):MU p q t=(p.2.1-q.2.1)*t.2+(p.2.2-q.2.2)*t.1:=rfl
theorem HY {p q:Pt} {t:Int×Int} (hp:gF p) (hq:gF q) (ht:oS t) (hr:bW t):kK p q t=some (decide (cN p q t),if p.1=q.1 then 2 else 0)\/(p.1=q.1/\kK p q t=some (false,2)):=by
 unfold kK;rw [vR ht,if_pos ⟨hp,hq,hr⟩]
 by_cases h:p.1=q.1
 · right;simp [h]
 · left
   simp only [h,if_false,aF,vB hp hq ht]
   have:decide (0<TU p q t)=decide (cN p q t):=by simp only [KS]
   simp [this]
end Go.Proofs.YtbncnimfgdelaaaGreat
namespace Go.Proofs.YtbncnimfgdelaaaGreat
theorem tZ {α:Type} [BEq α] [LawfulBEq α]: ∀{a b:List α},a.Nodup->(∀x∈a,x∈b)->b.length<=a.length->a.Perm b
 | [],b,_,_,hl=>by
  rw [List.eq_nil_of_length_eq_zero (show b.length=0 by simpa using hl)]
 |x::a,b,hd,h,hl=>by
  rw [List.nodup_cons] at hd;have hx:=h x List.mem_cons_self;have ih:=tZ (a:=a) (b:=b.erase x) hd.2 (fun y hy=>by
   rw [List.mem_erase_of_ne (fun e=>hd.1 (by rw [<- e];exact hy))]
   exact h y (List.mem_cons_of_mem _ hy)) (by
   rw [List.length_erase_of_mem hx];rw [List.length_cons] at hl
   omega)
  exact (List.Perm.cons x ih).trans (List.perm_cons_erase hx).symm
theorem uA {α β:Type} {f:α->β}: ∀{l:List α},l.Nodup->(∀x∈l,∀y∈l,f x=f y->x=y)->(l.map f).Nodup
 | [],_,_=>List.nodup_nil
 |x::l,h,hi=>by
  rw [List.nodup_cons] at h;rw [List.map_cons,List.nodup_cons];refine ⟨fun hm=>?_,uA h.2 fun y hy z hz=>hi y (List.mem_cons_of_mem _ hy) z (List.mem_cons_of_mem _ hz)⟩
  obtain ⟨y,hy,e⟩:=List.mem_map.1 hm
  have:=hi y (List.mem_cons_of_mem _ hy) x List.mem_cons_self e
  rw [this] at hy;exact h.1 hy
end Go.Proofs.YtbncnimfgdelaaaGreat
namespace Go.Proofs.YtbncnimfgdelaaaGreat
open Go.Vm Classical
def GU (l:List Int) (k:Nat):List (Int×Int):=(List.range k).map fun i=>(l[i+1]!,l[i / 2]!)
abbrev AX (l:List Int):List (Int×Int):=GU l (l.length-1)
theorem DR (l:List Int) (k:Nat):(GU l k).length=k:=by unfold GU;rw [List.length_map,List.length_range]
theorem HK (l:List Int) {k i:Nat} (h:i<k):(GU l k)[i]! =(l[i+1]!,l[i / 2]!):=by
 rw [getElem!_pos _ i (by rw [DR];exact h)]
 unfold GU;rw [List.getElem_map,List.getElem_range]
theorem RW {l:List Int} (hd:l.Nodup):(AX l).Nodup:=by
 unfold AX GU;refine uA List.nodup_range fun i hi j hj h=>?_
 rw [List.mem_range] at hi hj;have h1:l[i+1]! =l[j+1]!:=congrArg Prod.fst h;have h2:=dR.1 hd;rcases Nat.lt_trichotomy i j with k|k|k
 · exact absurd h1 (h2 (i+1) (j+1) (by omega) (by omega))
 · exact k
 · exact absurd h1.symm (h2 (j+1) (i+1) (by omega) (by omega))
theorem aGC {f:List Pt} (fok:bC f) {t:Int×Int} (r64:oS t) {x:Int×Int} (hb:jZ f x):yG x ⟨f⟩ t=some (decide (cN (eJ f x.2) (eJ f x.1) t)):=by
 obtain ⟨h1,h2⟩:=hb;obtain ⟨j,j1,j2,j3⟩:=GS fok h1;obtain ⟨k,k1,k2,k3⟩:=GS fok h2;unfold yG;simp only [j2,k2,aF,aD f j j1,aD f k k1,j3,k3,KT (jK fok h2).1 (jK fok h1).1 r64]
def gD (f:List Pt):List Int:=f.map fun p=>p.1
theorem kA {f:List Pt} (h:dZ f):(gD f).Nodup:=by
 refine uA ?_ ?_
 · exact dR.2 fun i j hij hj e=>by have:=pT h hij hj;rw [e] at this;omega
 · intro x hx y hy e
   obtain ⟨i,hi,rfl⟩:=bE.1 hx;obtain ⟨j,hj,rfl⟩:=bE.1 hy;rw [pU h hi hj e]
theorem fS {f:List Pt} {id:Int}:id∈gD f↔mQ f id:=by
 unfold gD mQ;rw [List.mem_map];constructor
 · rintro ⟨p,hp,rfl⟩
   obtain ⟨i,hi,rfl⟩:=bE.1 hp;exact ⟨i,hi,rfl⟩
 · rintro ⟨i,hi,rfl⟩
   exact ⟨f[i]!,bF hi,rfl⟩
structure uB (k:CG):Prop where
 clk:bH k.clock
 perm:(gD k.clock.field.points).Perm k.heap
 cert:(k.clock.certs.list.map fun x=>x.2).Perm (AX k.heap)
 lead: ∀e∈AX k.heap,cN (eJ k.clock.field.points e.2) (eJ k.clock.field.points e.1) k.clock.now
theorem HL {c:aZ} (ok:fG c):(c.list.map fun x=>x.2).Nodup:=by
 refine uA ?_ ?_
 · exact dR.2 fun i j hij hj e=>ok.nd i j hij hj (by rw [e])
 · intro x hx y hy e
   obtain ⟨i,hi,rfl⟩:=bE.1 hx;obtain ⟨j,hj,rfl⟩:=bE.1 hy;rcases Nat.lt_trichotomy i j with k|k|k
   · exact absurd e (ok.nd i j k hj)
   · rw [k]
   · exact absurd e.symm (ok.nd j i k hi)
theorem FB {l:List DW} {x:Int×Int}:tX l x↔x∈l.map fun y=>y.2:=by
 unfold tX;rw [List.mem_map];constructor
 · rintro ⟨i,hi,rfl⟩;exact ⟨l[i]!,bF hi,rfl⟩
 · rintro ⟨y,hy,rfl⟩
   obtain ⟨i,hi,rfl⟩:=bE.1 hy;exact ⟨i,hi,rfl⟩
theorem aGD {c:aR} (ok:bH c) (es:List (Int×Int)) (kn: ∀x∈es,jZ c.field.points x):
 yH c es=some (decide (c.certs.list.length=es.length/\ ∀i,i<es.length->tX c.certs.list es[i]!/\cN (eJ c.field.points (es[i]!).2) (eJ c.field.points (es[i]!).1) c.now)):=by
 have bd:=ok.bd;unfold yH;simp only [aH]
 by_cases h0:c.certs.list.length=es.length
 case neg=>rw [dL (by omega),cond_true,aL (fun h=>h0 h.1)]
 rw [dA (by omega),cond_false]
 have key:=OS (body:=qO) (fun i=>(es,(i:Int),c.now.1,c.now.2,c.field.points,c.certs.next_,c.certs.list,c.agenda.slots.uses,c.agenda.slots.used,c.agenda.slots.free,c.agenda.heap,c.agenda.where_,c.due)) es.length
  (fun i=>tX c.certs.list es[i]!/\cN (eJ c.field.points (es[i]!).2) (eJ c.field.points (es[i]!).1) c.now) (r:=false) (e:=true) (fun i hi=>by
  have ceta2:aZ.mk c.certs.next_ c.certs.list=c.certs:=rfl;unfold qO;simp only [aH,aQ (show (i:Int)<(es.length:Int) by omega),cond_true,aD es i hi,aF,ceta2,yN c.certs es[i]! (by omega),aGC ok.fld (t:=(c.now.1,c.now.2)) ok.now64 (kn _ (bF hi)),aX (show i<1000000000 by omega)]
  by_cases h1:tX c.certs.list es[i]!
  · rw [aQ h1]
    by_cases h2:cN (eJ c.field.points (es[i]!).2) (eJ c.field.points (es[i]!).1) c.now
    · rw [show decide (cN (eJ c.field.points (es[i]!).2) (eJ c.field.points (es[i]!).1) (c.now.1,c.now.2))=true from aQ h2]
      exact ⟨fun h=>absurd ⟨h1,h2⟩ h,fun _=>rfl⟩
    · rw [show decide (cN (eJ c.field.points (es[i]!).2) (eJ c.field.points (es[i]!).1) (c.now.1,c.now.2))=false from aL h2]
      exact ⟨fun _=>rfl,fun h=>absurd h.2 h2⟩
  · rw [aL h1]
    exact ⟨fun _=>rfl,fun h=>absurd h.1 h1⟩) (by
  unfold qO;simp only [aH,aL (show¬(es.length:Int)<(es.length:Int) by omega),cond_false])
 refine (show _=_ from key).trans ?_
 by_cases h2: ∀i,i<es.length->tX c.certs.list es[i]!/\cN (eJ c.field.points (es[i]!).2) (eJ c.field.points (es[i]!).1) c.now
 · rw [if_pos h2,aQ ⟨h0,h2⟩]
 · rw [if_neg h2,aL (fun h=>h2 h.2)]
end Go.Proofs.YtbncnimfgdelaaaGreat
