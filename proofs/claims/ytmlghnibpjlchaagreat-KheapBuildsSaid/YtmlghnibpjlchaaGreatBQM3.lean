/- Plain laws (3). -/
import Derived.Test.YtmlghnibpjlchaaGreatBQM2
import Derived.Test.YtmlghnibpjlchaaGreatBVm3
import Derived.Test.YtmlghnibpjlchaaGreatBQS2
namespace Go.Proofs.YtmlghnibpjlchaaGreat
open Go.Vm Classical
theorem bG.bd {c:aO} (ok:bG c):c.due.length<=200/\c.field.points.length<=64/\c.certs.list.length<=200:=by
 have:=ok.hd;have:=ok.agd.bd;have:=ok.fld.1;have:=ok.crt.len
 omega
theorem pV {c:aO} (ok:bG c):kM c=some c:=by
 have bd:=ok.bd;unfold kM mB oW;simp only [bQ (show c.field.points.length<=1048576 by omega),bQ (show c.certs.list.length<=1048576 by omega),bQ (show c.due.length<=1048576 by omega),aE,BK ok.agd]
theorem uN {c:aO} (ok:bG c):mA c=some c:=by
 have bd:=ok.bd;have ab:=ok.agd.bd;have hl:=ok.agd.so.fl;have hn:=ok.agd.so.n2;have hu:=ok.agd.so.ul;unfold mA;simp only [bQ (show c.field.points.length<=1048576 by omega),bQ (show c.certs.list.length<=1048576 by omega),bQ (show c.due.length<=1048576 by omega),bQ (show c.agenda.heap.length<=1048576 by omega),bQ (show c.agenda.where_.length<=1048576 by omega),
  bQ (show c.agenda.slots.uses.length<=1048576 by omega),bQ (show c.agenda.slots.used.length<=1048576 by omega),bQ (show c.agenda.slots.free.length<=1048576 by omega),aE]
end Go.Proofs.YtmlghnibpjlchaaGreat
namespace Go.Proofs.YtmlghnibpjlchaaGreat
open Go.Vm Classical
abbrev pW:aO:=⟨(0,0),⟨[]⟩,⟨0,[]⟩,⟨⟨[],[],[]⟩,[],[]⟩,[]⟩
theorem YZ {l:List Pt} (ok:dC l) {id:Int} (h:mW l id): ¬(eE l id).1<0:=by
 obtain ⟨h1,_⟩:=gZ ok h
 have:=h1.1
 omega
theorem aFS {c:aO} (ok:bG c) {x:Int×Int} (hx:iB x) (hb:lE c.field.points x) (hn: ¬xC c.certs.list x):
 (gB c x=some (pW,0,18)/\jE c x=some (pW,0,18)/\(D6 c.certs\/ ¬zG c.agenda.slots))\/
 ∃c':aO,gB c x=some (c',c.certs.next_,0)/\jE c x=some (c',c.certs.next_,0)/\bG c'/\c'.field=c.field/\c'.now=c.now/\c'.certs=oA c.certs x/\(c'.agenda.slots=c.agenda.slots\/c'.agenda.slots=fG c.agenda.slots):=by
 have bd:=ok.bd;have n0:=ok.crt.n0;have n1:=ok.crt.n1;have fit:=ok.fit;have ad:=PO ok.crt hx;have rd:=MW ok.crt hx;rw [if_neg hn] at ad rd;have hc:hU c=some 0:=by rw [sU fit,if_pos ok]
 have p1:=oB ok.fld x.1;have p2:=oB ok.fld x.2;have q1:=YZ ok.fld hb.1;have q2:=YZ ok.fld hb.2;have wh:=BP ok.fld hx ok.nowv ok.now64;rw [if_pos hb] at wh;have rw':=BQ ok.fld ok.now64 hb
 by_cases hf:D6 c.certs
 · rw [if_pos hf] at ad rd
   left;refine ⟨?_,?_,.inl hf⟩
   · unfold gB cP
     simp only [hc,aE,show ((0:Int) !=0)=false from rfl,cond_false,ad,show ((18:Int)==8)=false from rfl,p1,p2,aM q1,aM q2,show ((18:Int) !=0)=true from rfl,cond_true]
   · unfold jE
     simp only [rd,aE,show ((18:Int) !=0)=true from rfl,cond_true]
 rw [if_neg hf] at ad rd;have cok:=RZ ok.crt hx hn hf;have known': ∀j,j<(oA c.certs x).list.length->lE c.field.points ((oA c.certs x).list[j]!).2:=by
  intro j hj;rw [AQ] at hj;rw [sS]
  by_cases h:j<c.certs.list.length
  · rw [if_pos h];exact ok.known j h
  · rw [if_neg h,if_pos (by omega)];exact hb
 have fresh: ∀e∈c.agenda.heap,Ev.num e≠c.certs.next_:=by
  intro e he hne;obtain ⟨d,hd,h1⟩:=ok.nums e he;obtain ⟨y,hy,h2,_⟩:=ok.fol.due d hd;obtain ⟨j,hj,rfl⟩:=bA.1 hy
  have:=(ok.crt.nr j hj).2
  omega
 have sn:=ok.fol.snoc (x:=(c.certs.next_,x));cases hw:(bL c.field.points x c.now).2 with
 |false=>
  right;refine ⟨⟨c.now,c.field,oA c.certs x,c.agenda,c.due⟩,?_,?_,⟨ok.nowv,ok.now64,ok.fld,cok,ok.agd,ok.w200,ok.hd,known',sn.1 hw⟩,rfl,rfl,rfl,.inl rfl⟩
  · unfold gB cP
    simp only [hc,aE,show ((0:Int) !=0)=false from rfl,cond_false,ad,show ((0:Int)==8)=false from rfl,p1,p2,aM q1,aM q2,uN ok,wh,hw]
  · unfold jE
    simp only [rd,aE,show ((0:Int) !=0)=false from rfl,cond_false,pV ok,rw',hw,Bool.not_false,cond_true]
 |true=>
  obtain ⟨t1,t2⟩:=YN (gZ ok.fld hb.2).1 (gZ ok.fld hb.1).1 ok.now64 ok.nowv hw
  by_cases op:zG c.agenda.slots
  · right
    have pu:=FA ok.agd op ok.agd.fit (t:=(bL c.field.points x c.now).1) (n:=c.certs.next_) t1 t2 n0 n1 fresh;have rp:=GB ok.agd op (t:=(bL c.field.points x c.now).1) (n:=c.certs.next_) t1 t2 n0 n1;have pok:=aFP ok.agd op (t:=(bL c.field.points x c.now).1) (n:=c.certs.next_) t1 t2 n0 n1 fresh
    have pmem:=YU ok.agd op (t:=(bL c.field.points x c.now).1) (n:=c.certs.next_) t1;have plen:=JE ok.agd op (t:=(bL c.field.points x c.now).1) (n:=c.certs.next_) t1;have ap: ∀h:Int×Int,bM c.due [(c.certs.next_,h)]=some (c.due++[(c.certs.next_,h)]):=fun h=>mD (by simp;omega)
    have wlen:(lD c.agenda (bL c.field.points x c.now).1 c.certs.next_).where_.length=200:=by
     have:=pok.wl
     change _=(c.agenda.slots.uses.set _ _).length at this;rw [List.length_set] at this;rw [this,<- ok.agd.wl,ok.w200]
    refine ⟨⟨c.now,c.field,oA c.certs x,lD c.agenda (bL c.field.points x c.now).1 c.certs.next_,c.due++[(c.certs.next_,kC c.agenda.slots)]⟩,?_,?_,⟨ok.nowv,ok.now64,ok.fld,cok,pok,wlen,?_,known',?_⟩,rfl,rfl,rfl,.inr rfl⟩
    · unfold gB cP
      simp only [hc,aE,show ((0:Int) !=0)=false from rfl,cond_false,ad,show ((0:Int)==8)=false from rfl,p1,p2,aM q1,aM q2,uN ok,wh,hw,cond_true,pu,ap]
    · unfold jE
      simp only [rd,aE,show ((0:Int) !=0)=false from rfl,cond_false,pV ok,rw',hw,Bool.not_true,BI ok.agd.so,aS op,rp,ap]
    · show (lD c.agenda (bL c.field.points x c.now).1 c.certs.next_).heap.length=(c.due++[_]).length
      rw [plen,List.length_append,ok.hd];rfl
    · have fm:aV c.field.points c.now (lD c.agenda (bL c.field.points x c.now).1 c.certs.next_).heap c.certs.list c.due:=ok.fol.mono fun y hy e he hm=>(pmem e).2 (.inr hm)
      exact (fm.snoc (x:=(c.certs.next_,x))).2 _ hw rfl ((pmem _).2 (.inl rfl))
  · left
    have pu:=FB ok.agd op ok.agd.fit (t:=(bL c.field.points x c.now).1) (n:=c.certs.next_) t1 t2 n0 n1 fresh;refine ⟨?_,?_,.inr op⟩
    · unfold gB cP
      simp only [hc,aE,show ((0:Int) !=0)=false from rfl,cond_false,ad,show ((0:Int)==8)=false from rfl,p1,p2,aM q1,aM q2,uN ok,wh,hw,cond_true,pu,show ((18:Int) !=0)=true from rfl]
    · unfold jE
      simp only [rd,aE,show ((0:Int) !=0)=false from rfl,cond_false,pV ok,rw',hw,Bool.not_true,BI ok.agd.so,aM op,Bool.not_false,cond_true]
end Go.Proofs.YtmlghnibpjlchaaGreat
namespace Go.Proofs.YtmlghnibpjlchaaGreat
open Go.Vm Classical
theorem Up.inj {cs:List BL} (h:Up cs) {x y:BL} (hx:x∈cs) (hy:y∈cs) (he:x.1=y.1):x=y:=by
 obtain ⟨i,hi,rfl⟩:=bA.1 hx;obtain ⟨j,hj,rfl⟩:=bA.1 hy;have ub:=GQ.1 h;rcases Nat.lt_trichotomy i j with h1|h1|h1
 · have:=ub i j h1 hj;omega
 · rw [h1]
 · have:=ub j i h1 hi;omega
section
variable {c : aO} (ok : bG c) {f : List Pt} (fok : dC f) (kn : ∀ i, i < c.certs.list.length -> lE f (c.certs.list[i]!).2)
include ok
include fok kn
end
end Go.Proofs.YtmlghnibpjlchaaGreat
namespace Go.Proofs.YtmlghnibpjlchaaGreat
open Go.Vm Classical
theorem JX (l:List (Int×Int)) (x:Int×Int) (hl:l.length<=1000000):fB l x=some (decide (x∈l)):=by
 unfold fB nF;have key:=mS (body:=hH) (fun i=>(l,(l.length:Int),(i:Int),x)) l.length (fun i=>l[i]! =x) (fun i=>(i:Int)) (e:= -1) (fun i hi=>by
  have e1:decide ((i:Int)<(l.length:Int))=true:=aS (by omega)
  unfold hH;simp only [e1,cond_true,aD l i hi,aE,bD (show i<1000000000 by omega)]
  generalize l[i]! =y;constructor
  · intro h;rw [gL (congrArg Prod.fst h.symm),gL (congrArg Prod.snd h.symm)];rfl
  · intro h
    by_cases h1:x.1=y.1
    · rw [gL h1,fM (fun h2=>h (Prod.ext h1.symm h2.symm))];rfl
    · rw [fM h1];rfl) (by
  unfold hH
  have:decide ((l.length:Int)<(l.length:Int))=false:=aM (by omega)
  simp only [this,cond_false])
 rw [aH]
 by_cases hx:x∈l
 · obtain ⟨i,hi,he⟩:=bA.1 hx
   obtain ⟨k,h1,h2,h3⟩:=I0 (c:=fun i=>l[i]! =x) ⟨i,hi,he⟩
   have:=key.1 k h1 h2 h3
   rw [show ((0:Nat):Int)=0 from rfl] at this;rw [this,aS hx];simp only [aE,aS (show (0:Int)<=(k:Int) by omega)]
 · have:=key.2 fun i hi he=>hx (bA.2 ⟨i,hi,he⟩)
   rw [show ((0:Nat):Int)=0 from rfl] at this;rw [this,aM hx];rfl
theorem Y0 (x y:BL):((x.1==y.1)&&((x.2.1==y.2.1)&&(x.2.2==y.2.2)))=decide (x=y):=by
 rw [Bool.eq_iff_iff,decide_eq_true_iff];simp only [Bool.and_eq_true,beq_iff_eq];constructor
 · rintro ⟨h1,h2,h3⟩;exact Prod.ext h1 (Prod.ext h2 h3)
 · rintro rfl;exact ⟨rfl,rfl,rfl⟩
theorem F0 (a b:List BL) (hl:a.length<=1000000):sJ ⟨a⟩ ⟨b⟩=some (decide (a=b)):=by
 unfold sJ;simp only [aH]
 by_cases h:a.length=b.length
 case neg=>rw [dM (by omega),aM (fun k=>h (by rw [k]))];rfl
 rw [cB (by omega)]
 simp only [cond_false];have key:=cS (body:=pO) (fun i=>((i:Int),a,b)) a.length (fun i=> ¬a[i]! =b[i]!) (r:=false) (e:=true) (fun i hi=>by
  have e1:decide ((i:Int)<(a.length:Int))=true:=aS (by omega)
  unfold pO;simp only [aH,e1,cond_true,aD a i hi,aD b i (by omega),aE,bD (show i<1000000000 by omega),Y0]
  constructor
  · intro h;rw [aM h];rfl
  · intro h;rw [aS (Classical.not_not.1 h)];rfl) (by
  unfold pO
  have:decide ((a.length:Int)<(a.length:Int))=false:=aM (by omega)
  simp only [aH,this,cond_false])
 by_cases he:a=b
 · rw [aS he]
   exact key.2 fun i hi=>Classical.not_not.2 (by rw [he])
 · rw [aM he]
   refine key.1 (Classical.byContradiction fun hx=>he (I1 h fun i hi=>?_))
   exact Classical.byContradiction fun hn=>hx ⟨i,hi,hn⟩
theorem MX (a b:List BL) (hl:a.length<=1000000):jK a b=some (decide (a=b)):=by
 unfold jK;simp only [aH]
 by_cases h:a.length=b.length
 case neg=>rw [dM (by omega),aM (fun k=>h (by rw [k]))];rfl
 rw [cB (by omega)]
 simp only [cond_false];have key:=cS (body:=gQ) (fun i=>(a,b,(a.length:Int),(i:Int))) a.length (fun i=> ¬a[i]! =b[i]!) (r:=false) (e:=true) (fun i hi=>by
  have e1:decide ((i:Int)<(a.length:Int))=true:=aS (by omega)
  unfold gQ;simp only [e1,cond_true,aD a i hi,aD b i (by omega),aE,bD (show i<1000000000 by omega),Y0]
  constructor
  · intro h;rw [aM h];rfl
  · intro h;rw [aS (Classical.not_not.1 h)];rfl) (by
  unfold gQ
  have:decide ((a.length:Int)<(a.length:Int))=false:=aM (by omega)
  simp only [this,cond_false])
 by_cases he:a=b
 · rw [aS he]
   exact key.2 fun i hi=>Classical.not_not.2 (by rw [he])
 · rw [aM he]
   refine key.1 (Classical.byContradiction fun hx=>he (I1 h fun i hi=>?_))
   exact Classical.byContradiction fun hn=>hx ⟨i,hi,hn⟩
def kP (c0:aO) (f:List Pt) (es:List (Int×Int)) (i:Nat) (c:aO):=
 (es,c0.certs.list,(c0.certs.list.length:Int),(i:Int),c.now.1,c.now.2,c.field.points,c.certs.next_,c.certs.list,c.agenda.slots.uses,c.agenda.slots.used,c.agenda.slots.free,c.agenda.heap,c.agenda.where_,c.due,f,(0:Int),(0:Int),(0:Int))
def kR (c0:aO) (f:List Pt) (es:List (Int×Int)) (i:Nat) (c:aO):=
 (es,(i:Int),c0.now.1,c0.now.2,c0.field.points,c0.certs.next_,c0.certs.list,c0.agenda.slots.uses,c0.agenda.slots.used,c0.agenda.slots.free,c0.agenda.heap,c0.agenda.where_,c0.due,f,(0:Int),(0:Int),(0:Int),c.now.1,c.now.2,c.field.points,c.certs.next_,c.certs.list,c.agenda.slots.uses,c.agenda.slots.used,c.agenda.slots.free,c.agenda.heap,c.agenda.where_,c.due)
def eP (es:List (Int×Int)) (i:Nat) (c:aO):=
 (es,(es.length:Int),(i:Int),c.now.1,c.now.2,c.field.points,c.certs.next_,c.certs.list,c.agenda.slots.uses,c.agenda.slots.used,c.agenda.slots.free,c.agenda.heap,c.agenda.where_,c.due,(0:Int),(0:Int),(0:Int))
def eR (es:List (Int×Int)) (i:Nat) (c:aO):=
 (es,(i:Int),(0:Int),(0:Int),(0:Int),c.now.1,c.now.2,c.field.points,c.certs.next_,c.certs.list,c.agenda.slots.uses,c.agenda.slots.used,c.agenda.slots.free,c.agenda.heap,c.agenda.where_,c.due)
def Y1 (c:aO):Int:=c.certs.next_- (c.certs.list.length:Int)
structure Y2 (c:aO) (f:List Pt) (r:aO):Prop where
 ok:bG r
 fld:r.field.points=f
 now:r.now=c.now
 room:Y1 c<=Y1 r
def F1 (c:aO) (k:Nat):Prop:=c.certs.list.length<=k/\c.certs.next_<=k/\ ∀j,j<c.agenda.slots.uses.length->c.agenda.slots.uses[j]!<=k
theorem aV.len {l:List Pt} {t:Int×Int} {H:List Ev}: ∀{cs ds:List BL},aV l t H cs ds->ds.length<=cs.length
 | [],ds,h=>by rw [show ds=[] from h];exact Nat.le_refl _
 |x::cs,ds,h=>by
  cases hy:(bL l x.2 t).2 with
  |true=>
   obtain ⟨d,ds',rfl,_,_,h4⟩:=h.1 hy;exact Nat.succ_le_succ h4.len
  |false=>exact Nat.le_succ_of_le (h.2 hy).len
theorem F1.not_full {c:aO} (ok:bG c) {k:Nat} (h:F1 c k) (hk:k<=199): ¬(D6 c.certs\/ ¬zG c.agenda.slots):=by
 obtain ⟨h1,h2,h3⟩:=h;have fl:=ok.fol.len;have hd:=ok.hd;have hl:=ok.agd.hl;have wl:=ok.agd.wl;have w2:=ok.w200;rintro (h|h)
 · rcases h with h|h<;>omega
 · refine h ⟨by omega,?_⟩
   have:=h3 _ (AL ok.agd.so (by omega)).1
   omega
theorem F1.more {c c':aO} {k:Nat} (h:F1 c k) {x:Int×Int} (hc:c'.certs=oA c.certs x) (hs:c'.agenda.slots=c.agenda.slots\/c'.agenda.slots=fG c.agenda.slots):F1 c' (k+1):=by
 obtain ⟨h1,h2,h3⟩:=h;refine ⟨?_,?_,fun j hj=>?_⟩
 · rw [hc]
   show (c.certs.list++[(c.certs.next_,x)]).length<=_;rw [List.length_append,List.length_singleton];omega
 · rw [hc]
   show c.certs.next_+1<=_;omega
 · rcases hs with e|e
   · rw [e] at hj ⊢
     have:=h3 j hj;omega
   · rw [e] at hj ⊢
     change j<(c.agenda.slots.uses.set _ _).length at hj;rw [List.length_set] at hj;show (c.agenda.slots.uses.set (cI c.agenda.slots) (c.agenda.slots.uses[cI c.agenda.slots]!+1))[j]!<=_;rw [cE];split
     · rename_i h;have:=h3 _ h.2;omega
     · have:=h3 j hj;omega
structure MY (f:List Pt) (es:List (Int×Int)):Prop where
 len:es.length<=1000000
 cv: ∀x∈es,iB x
 kn: ∀x∈es,lE f x
theorem Y3 {f : List Pt} (_fok : dC f) {es : List (Int × Int)} (eok : MY f es) :
    ∀ (d i : Nat) (c : aO), es.length - i <= d -> i <= es.length -> bG c -> c.field.points = f ->
      ∃ r : aO × Int, aK dR (eP es i c) = some (.done r) /\ aK cV (eR es i c) = some (.done r) /\ (r.2 = 0 /\ Y2 c f r.1 \/ r = (pW, 18)) /\ (∀ k, F1 c k -> k + (es.length - i) <= 199 -> r.2 = 0) := by
  have el := eok.len
  have fin : ∀ c : aO, bG c -> c.field.points = f -> ∃ r : aO × Int, aK dR (eP es es.length c) = some (.done r) /\ aK cV (eR es es.length c) = some (.done r) /\ (r.2 = 0 /\ Y2 c f r.1 \/ r = (pW, 18)) /\ r.2 = 0 := by
    intro c ok hf
    have e1 : decide ((es.length : Int) < (es.length : Int)) = false := aM (by omega)
    refine ⟨(c, 0), aQ ?_, aQ ?_, .inl ⟨rfl, ok, hf, rfl, Int.le_refl _⟩, rfl⟩
    · unfold dR eP
      simp only [e1, cond_false]
    · unfold cV eR
      simp only [aH, e1, cond_false]
  intro d
  induction d with
  | zero =>
    intro i c hd hi ok hf
    have : i = es.length := by omega
    subst this
    obtain ⟨r, q1, q2, q3, q4⟩ := fin c ok hf
    exact ⟨r, q1, q2, q3, fun _ _ _ => q4⟩
  | succ d ih =>
    intro i c hd hi ok hf
    by_cases he : i = es.length
    · subst he
      obtain ⟨r, q1, q2, q3, q4⟩ := fin c ok hf
      exact ⟨r, q1, q2, q3, fun _ _ _ => q4⟩
    have bd := ok.bd
    have hi' : i < es.length := by omega
    have e1 : decide ((i : Int) < (es.length : Int)) = true := aS (by omega)
    have sc := bD (show i < 1000000000 by omega)
    have cg := aD es i hi'
    have ceta : (aO.mk (c.now.1, c.now.2) (Field.mk c.field.points) (aW.mk c.certs.next_ c.certs.list) (aJ.mk (aR.mk c.agenda.slots.uses c.agenda.slots.used c.agenda.slots.free) c.agenda.heap c.agenda.where_) c.due) = c := rfl
    have ceta2 : aW.mk c.certs.next_ c.certs.list = c.certs := rfl
    have hc := PN c.certs.list es[i]! (by omega)
    have hr := xD c.certs es[i]! (by omega)
    by_cases hin : xC c.certs.list es[i]!
    · have s1 : dR (eP es i c) = some (.next (eP es (i + 1) c)) := by
        unfold dR eP
        simp only [e1, cond_true, cg, aE, FC, hc, aS hin, sc]
      have s2 : cV (eR es i c) = some (.next (eR es (i + 1) c)) := by
        unfold cV eR
        simp only [aH, e1, cond_true, cg, aE, ceta2, hr, aS hin, sc]
      rw [bE s1, bE s2]
      obtain ⟨r, q1, q2, q3, q4⟩ := ih (i + 1) c (by omega) (by omega) ok hf
      exact ⟨r, q1, q2, q3, fun k hk hl => q4 k hk (by omega)⟩
    · have hb : lE c.field.points es[i]! := by rw [hf]; exact eok.kn _ (cR hi')
      rcases aFS ok (eok.cv _ (cR hi')) hb hin with ⟨r1, r2, full⟩ | ⟨c', r1, r2, r3, r4, r5, r6, r7⟩
      · refine ⟨(pW, 18), aQ ?_, aQ ?_, .inr rfl, fun k hk hl => absurd full (hk.not_full ok (by omega))⟩
        · unfold dR eP
          simp only [e1, cond_true, cg, aE, FC, hc, aM hin, cond_false, ceta, r1, show ((18 : Int) != 0) = true from rfl]
        · unfold cV eR
          simp only [aH, e1, cond_true, cg, aE, ceta2, hr, aM hin, cond_false, ceta, r2, show ((18 : Int) != 0) = true from rfl]
      · have s1 : dR (eP es i c) = some (.next (eP es (i + 1) c')) := by
          unfold dR eP
          simp only [e1, cond_true, cg, aE, FC, hc, aM hin, cond_false, ceta, r1, show ((0 : Int) != 0) = false from rfl, sc]
        have s2 : cV (eR es i c) = some (.next (eR es (i + 1) c')) := by
          unfold cV eR
          simp only [aH, e1, cond_true, cg, aE, ceta2, hr, aM hin, cond_false, ceta, r2, show ((0 : Int) != 0) = false from rfl, sc]
        rw [bE s1, bE s2]
        obtain ⟨r, q1, q2, q3, q6⟩ := ih (i + 1) c' (by omega) (by omega) r3 (by rw [r4, hf])
        refine ⟨r, q1, q2, q3.imp (fun ⟨q4, q5⟩ => ⟨q4, q5.ok, q5.fld, q5.now.trans r5, Int.le_trans ?_ q5.room⟩) id, fun k hk hl => q6 (k + 1) (hk.more r6 r7) (by omega)⟩
        unfold Y1
        rw [r6]
        show _ <= (c.certs.next_ + 1) - (((c.certs.list ++ [(c.certs.next_, es[i]!)]).length : Nat) : Int)
        rw [List.length_append, List.length_singleton]
        omega
theorem PU {c:aO} (ok:bG c) (h0:c.certs.list=[]) {es:List (Int×Int)} (eok:MY c.field.points es) (hr:F1 c 0) (hl:es.length<=199):
 ∃r:aO,qL c c.field es=some (r,0)/\jX c c.field es=some (r,0)/\Y2 c c.field.points r:=by
 have bd:=ok.bd;have l0:c.certs.list.length=0:=by rw [h0];rfl
 have e1:decide (((0:Nat):Int)<(c.certs.list.length:Int))=false:=aM (by omega)
 have start1:qL c c.field es=aK sG (kP c c.field.points es 0 c):=rfl;have start2:jX c c.field es=aK pA (kR c c.field.points es 0 c):=by
  unfold jX;simp only [pV ok,aE];rfl
 obtain ⟨r,i1,i2,i3,i4⟩:=Y3 ok.fld eok es.length 0 c (by omega) (by omega) ok rfl
 have r0:=i4 0 hr (by omega)
 have e:r=(r.1,0):=by rw [<- r0]
 rw [e] at i1 i2;refine ⟨r.1,?_,?_,?_⟩
 · rw [start1]
   refine aQ ?_;unfold sG kP;simp only [e1,cond_false,MX c.field.points c.field.points (by omega),aS rfl,aE,Bool.not_true]
   exact i1
 · rw [start2]
   refine aQ ?_;unfold pA kR;simp only [aH,e1,cond_false,F0 c.field.points c.field.points (by omega),aS rfl,aE,Bool.not_true]
   exact i2
 · rcases i3 with ⟨_,h⟩|h
   · exact h
   · rw [h] at r0;cases r0
end Go.Proofs.YtmlghnibpjlchaaGreat
namespace Go.Proofs.YtmlghnibpjlchaaGreat
open Go.Vm Classical
theorem JJ {σ ρ:Type} {body:σ->Option (bH σ ρ)} (st:Nat->σ) (n:Nat) (P:Nat->Prop) {r e:ρ} (h: ∀i,i<n->(¬P i->body (st i)=some (.done r))/\(P i->body (st i)=some (.next (st (i+1)))))
 (hend:body (st n)=some (.done e)):aK body (st 0)=some (if∀i,i<n->P i then e else r):=by
 have key:=cS (body:=body) st n (fun i=> ¬P i) (r:=r) (e:=e) (fun i hi=>⟨(h i hi).1,fun hn=>(h i hi).2 (Classical.not_not.1 hn)⟩) hend
 by_cases hx: ∀i,i<n->P i
 · rw [if_pos hx];exact key.2 fun i hi=>Classical.not_not.2 (hx i hi)
 · rw [if_neg hx]
   obtain ⟨i,h⟩:=Classical.not_forall.1 hx;obtain ⟨hi,hx⟩:=Classical.not_imp.1 h;exact key.1 ⟨i,hi,hx⟩
structure D7 (c:aO):Prop where
 f:c.field.points.length<=1000000
 l:c.certs.list.length<=1000000
 d:c.due.length<=1000000
 h:c.agenda.heap.length<=1000000
 w:c.agenda.where_.length<=1000000
 s1:c.agenda.slots.uses.length<=1000000
 s2:c.agenda.slots.used.length<=1000000
 s3:c.agenda.slots.free.length<=1000000
theorem bG.short {c:aO} (ok:bG c):D7 c:=by
 have bd:=ok.bd;have ab:=ok.agd.bd;have sl:=ok.agd.so.fl;have sn:=ok.agd.so.n2;have su:=ok.agd.so.ul;exact ⟨by omega,by omega,by omega,by omega,by omega,by omega,by omega,by omega⟩
theorem BS:D7 pW:=⟨by decide,by decide,by decide,by decide,by decide,by decide,by decide,by decide⟩
theorem FF (l:List Int) (hl:l.length<=1000000):iV l l=some true:=by
 unfold iV;rw [cB rfl];refine (eN (body:=kB) (fun i=>(l,l,(i:Int))) l.length fun i hi=>?_).trans (aQ ?_)
 · have e1:decide ((i:Int)<(l.length:Int))=true:=aS (by omega)
   unfold kB;simp only [aH,e1,cond_true,aD l i hi,aE,bD (show i<1000000000 by omega),cB rfl,cond_false]
 · unfold kB
   have:decide ((l.length:Int)<(l.length:Int))=false:=aM (by omega)
   simp only [aH,this,cond_false]
theorem R1 (l:List Bool) (hl:l.length<=1000000):lU l l=some true:=by
 unfold lU;rw [cB rfl];refine (eN (body:=jM) (fun i=>(l,l,(i:Int))) l.length fun i hi=>?_).trans (aQ ?_)
 · have e1:decide ((i:Int)<(l.length:Int))=true:=aS (by omega)
   unfold jM;simp only [aH,e1,cond_true,aD l i hi,aE,bD (show i<1000000000 by omega),beq_self_eq_true,Bool.not_true,cond_false]
 · unfold jM
   have:decide ((l.length:Int)<(l.length:Int))=false:=aM (by omega)
   simp only [aH,this,cond_false]
theorem R2 (c:aW) (hl:c.list.length<=1000000):wU c c=some true:=by
 unfold wU;rw [cB rfl,cB rfl];refine (eN (body:=pR) (fun i=>((i:Int),c.next_,c.list,c.next_,c.list)) c.list.length fun i hi=>?_).trans (aQ ?_)
 · have e1:decide ((i:Int)<(c.list.length:Int))=true:=aS (by omega)
   unfold pR;simp only [aH,e1,cond_true,aD c.list i hi,aE,bD (show i<1000000000 by omega),beq_self_eq_true,Bool.and_self,Bool.not_true,cond_false]
 · unfold pR
   have:decide ((c.list.length:Int)<(c.list.length:Int))=false:=aM (by omega)
   simp only [aH,this,cond_false]
theorem PW (a:aJ) (h1:a.heap.length<=1000000) (h2:a.where_.length<=1000000) (h3:a.slots.uses.length<=1000000) (h4:a.slots.used.length<=1000000) (h5:a.slots.free.length<=1000000):wV a a=some true:=by
 unfold wV CL;simp only [FF _ h3,R1 _ h4,FF _ h5,FF _ h2,aE,cond_true,Bool.not_true,cond_false];rw [cB rfl];refine (eN (body:=pS) (fun i=>((i:Int),a.slots.uses,a.slots.used,a.slots.free,a.heap,a.where_,a.slots.uses,a.slots.used,a.slots.free,a.heap,a.where_)) a.heap.length fun i hi=>?_).trans (aQ ?_)
 · have e1:decide ((i:Int)<(a.heap.length:Int))=true:=aS (by omega)
   unfold pS;simp only [aH,e1,cond_true,aD a.heap i hi,aE,bD (show i<1000000000 by omega),beq_self_eq_true,Bool.and_self,Bool.not_true,cond_false]
 · unfold pS
   have:decide ((a.heap.length:Int)<(a.heap.length:Int))=false:=aM (by omega)
   simp only [aH,this,cond_false]
theorem R3 {c:aO} (sh:D7 c):wW c c=some true:=by
 have hd:=sh.d;unfold wW;simp only [beq_self_eq_true,Bool.and_self,Bool.not_true,cond_false,F0 c.field.points c.field.points sh.f,R2 _ sh.l,PW _ sh.h sh.w sh.s1 sh.s2 sh.s3,aE,aS];rw [cB rfl]
 refine (eN (body:=pT) (fun i=>((i:Int),c.now.1,c.now.2,c.field.points,c.certs.next_,c.certs.list,c.agenda.slots.uses,c.agenda.slots.used,c.agenda.slots.free,c.agenda.heap,c.agenda.where_,c.due,c.now.1,c.now.2,c.field.points,c.certs.next_,c.certs.list,c.agenda.slots.uses,c.agenda.slots.used,c.agenda.slots.free,c.agenda.heap,c.agenda.where_,c.due)) c.due.length fun i hi=>?_).trans (aQ ?_)
 · have e1:decide ((i:Int)<(c.due.length:Int))=true:=aS (by omega)
   unfold pT;simp only [aH,e1,cond_true,aD c.due i hi,aE,bD (show i<1000000000 by omega),beq_self_eq_true,Bool.and_self,Bool.not_true,cond_false]
 · unfold pT
   have:decide ((c.due.length:Int)<(c.due.length:Int))=false:=aM (by omega)
   simp only [aH,this,cond_false]
structure aFT (c:aO):Prop where
 now:pC c.now
 at64: ∀w,w<c.agenda.heap.length->pC ((c.agenda.heap[w]!).1,(c.agenda.heap[w]!).2.1)
theorem F2 (f:Field):mK f=some true\/(mK f=some false/\f.points.length<=70):=by
 unfold mK
 simp only [aH]
 by_cases h1:16<f.points.length
 · rw [aS (show (16:Int)<(f.points.length:Int) by omega)]
   by_cases h2:f.points.length<64
   · rw [aS (show (f.points.length:Int)<64 by omega)];exact .inl rfl
   · rw [aM (show¬(f.points.length:Int)<64 by omega)]
     by_cases h3:70<f.points.length
     · rw [aS (show (70:Int)<(f.points.length:Int) by omega)];exact .inl rfl
     · rw [aM (show¬(70:Int)<(f.points.length:Int) by omega)];exact .inr ⟨rfl,by omega⟩
 · rw [aM (show¬(16:Int)<(f.points.length:Int) by omega),aM (show¬(70:Int)<(f.points.length:Int) by omega)]
   exact .inr ⟨rfl,by omega⟩
theorem PX (c:aO):qH c=some true\/(qH c=some false/\D7 c):=by
 unfold qH yV yU
 simp only [aH]
 by_cases h1:40<c.certs.list.length
 · rw [aS (show (40:Int)<(c.certs.list.length:Int) by omega)];exact .inl rfl
 rw [aM (show¬(40:Int)<(c.certs.list.length:Int) by omega)]
 by_cases h2:40<c.due.length
 · rw [aS (show (40:Int)<(c.due.length:Int) by omega)];exact .inl rfl
 rw [aM (show¬(40:Int)<(c.due.length:Int) by omega)]
 rcases F2 c.field with e|⟨e,hf⟩
 · rw [e];exact .inl rfl
 rw [e];simp only [cond_false,aE]
 by_cases a1:210<c.agenda.slots.uses.length
 · rw [aS (show (210:Int)<(c.agenda.slots.uses.length:Int) by omega)];exact .inl rfl
 rw [aM (show¬(210:Int)<(c.agenda.slots.uses.length:Int) by omega)]
 by_cases a2:210<c.agenda.slots.used.length
 · rw [aS (show (210:Int)<(c.agenda.slots.used.length:Int) by omega)];exact .inl rfl
 rw [aM (show¬(210:Int)<(c.agenda.slots.used.length:Int) by omega)]
 by_cases a3:210<c.agenda.slots.free.length
 · rw [aS (show (210:Int)<(c.agenda.slots.free.length:Int) by omega)];exact .inl rfl
 rw [aM (show¬(210:Int)<(c.agenda.slots.free.length:Int) by omega)]
 by_cases a4:210<c.agenda.heap.length
 · rw [aS (show (210:Int)<(c.agenda.heap.length:Int) by omega)];exact .inl rfl
 rw [aM (show¬(210:Int)<(c.agenda.heap.length:Int) by omega)]
 by_cases a5:210<c.agenda.where_.length
 · rw [aS (show (210:Int)<(c.agenda.where_.length:Int) by omega)];exact .inl rfl
 rw [aM (show¬(210:Int)<(c.agenda.where_.length:Int) by omega)]
 exact .inr ⟨rfl,⟨by omega,by omega,by omega,by omega,by omega,by omega,by omega,by omega⟩⟩
end Go.Proofs.YtmlghnibpjlchaaGreat
namespace Go.Proofs.YtmlghnibpjlchaaGreat
open Go.Vm Classical
theorem aFT.of {c:aO} (h1:RT.wf [.i .i64,.i .i64] c.now) (h2: ∀a∈c.agenda.heap,RT.wf [.i .i64,.i .i64,.i .i64,.i .i64,.i .i64] a):aFT c where
 now:=⟨E2 h1.1,E2 h1.2⟩
 at64 w hw:=by
  have:=h2 (c.agenda.heap[w]!) (by rw [getElem!_pos c.agenda.heap w hw];exact List.getElem_mem hw)
  exact ⟨E2 this.1,E2 this.2.1⟩
end Go.Proofs.YtmlghnibpjlchaaGreat
namespace Go.Proofs.YtmlghnibpjlchaaGreat
open Go.Vm Classical
end Go.Proofs.YtmlghnibpjlchaaGreat
namespace Go.Proofs.YtmlghnibpjlchaaGreat
open Go.Vm Classical
end Go.Proofs.YtmlghnibpjlchaaGreat
namespace Go.Proofs.YtmlghnibpjlchaaGreat
theorem sV {α:Type} [BEq α] [LawfulBEq α]: ∀{a b:List α},a.Nodup->(∀x∈a,x∈b)->b.length<=a.length->a.Perm b
 | [],b,_,_,hl=>by
  rw [List.eq_nil_of_length_eq_zero (show b.length=0 by simpa using hl)]
 |x::a,b,hd,h,hl=>by
  rw [List.nodup_cons] at hd;have hx:=h x List.mem_cons_self;have ih:=sV (a:=a) (b:=b.erase x) hd.2 (fun y hy=>by
   rw [List.mem_erase_of_ne (fun e=>hd.1 (by rw [<- e];exact hy))]
   exact h y (List.mem_cons_of_mem _ hy)) (by
   rw [List.length_erase_of_mem hx];rw [List.length_cons] at hl
   omega)
  exact (List.Perm.cons x ih).trans (List.perm_cons_erase hx).symm
theorem sW {α β:Type} {f:α->β}: ∀{l:List α},l.Nodup->(∀x∈l,∀y∈l,f x=f y->x=y)->(l.map f).Nodup
 | [],_,_=>List.nodup_nil
 |x::l,h,hi=>by
  rw [List.nodup_cons] at h;rw [List.map_cons,List.nodup_cons];refine ⟨fun hm=>?_,sW h.2 fun y hy z hz=>hi y (List.mem_cons_of_mem _ hy) z (List.mem_cons_of_mem _ hz)⟩
  obtain ⟨y,hy,e⟩:=List.mem_map.1 hm
  have:=hi y (List.mem_cons_of_mem _ hy) x List.mem_cons_self e
  rw [this] at hy;exact h.1 hy
end Go.Proofs.YtmlghnibpjlchaaGreat
namespace Go.Proofs.YtmlghnibpjlchaaGreat
open Go.Vm Classical
def sX (l:List Int) (k:Nat):List (Int×Int):=(List.range k).map fun i=>(l[i+1]!,l[i / 2]!)
abbrev cX (l:List Int):List (Int×Int):=sX l (l.length-1)
theorem kQ (l:List Int) (k:Nat):(sX l k).length=k:=by unfold sX;rw [List.length_map,List.length_range]
theorem PY (l:List Int) (k:Nat):sX l (k+1)=sX l k++[(l[k+1]!,l[k / 2]!)]:=by
 unfold sX;rw [List.range_succ,List.map_append];rfl
theorem F3 (l:List Int) {k i:Nat} (h:i<k):(sX l k)[i]! =(l[i+1]!,l[i / 2]!):=by
 rw [getElem!_pos _ i (by rw [kQ];exact h)]
 unfold sX;rw [List.getElem_map,List.getElem_range]
theorem D8 (l:List Int) (hl:l.length<=1000):mL l=some (cX l):=by
 unfold mL;have key:=eN (body:=nE) (fun i=>(l,((i+1:Nat):Int),sX l i)) (l.length-1) (fun i hi=>by
  have e:aA .i64 (Int.tdiv (aA .i64 (((i+1:Nat):Int) -1)) 2)=((i / 2:Nat):Int):=by
   rw [show aA .i64 (((i+1:Nat):Int) -1)=(i:Int) from by rw [DZ ⟨by omega,by omega⟩];omega,Int.tdiv_eq_ediv_of_nonneg (by omega),DZ ⟨by omega,by omega⟩];omega
  unfold nE;simp only [aH,aS (show ((i+1:Nat):Int)<(l.length:Int) by omega),cond_true,aD l (i+1) (by omega),e,aD l (i / 2) (by omega),aE]
  rw [mD (by rw [kQ,List.length_singleton];omega),aE,bD (show i+1<1000000000 by omega),<- PY])
 rw [show (l,(1:Int),([]:List (Int×Int)))=(l,((0+1:Nat):Int),sX l 0) from rfl,key];refine aQ ?_;unfold nE;simp only [aH,aM (show¬((l.length-1+1:Nat):Int)<(l.length:Int) by omega),cond_false]
theorem Y4 (l:List Int) (hl:l.length<=1000):vE l=some (cX l):=by rw [<- D8 l hl];rfl
theorem FG {l:List Int} {e:Int×Int} (h:e∈cX l):e.1∈l/\e.2∈l:=by
 obtain ⟨i,hi,rfl⟩:=bA.1 h;rw [kQ] at hi;rw [F3 l hi];exact ⟨cR (by omega),cR (by omega)⟩
theorem Y5 {l:List Int} (hd:l.Nodup) {e:Int×Int} (h:e∈cX l):e.1≠e.2:=by
 obtain ⟨i,hi,rfl⟩:=bA.1 h;rw [kQ] at hi;rw [F3 l hi];exact fun h=>eI.1 hd (i / 2) (i+1) (by omega) (by omega) h.symm
theorem PZ {l:List Int} (hd:l.Nodup):(cX l).Nodup:=by
 unfold cX sX;refine sW List.nodup_range fun i hi j hj h=>?_
 rw [List.mem_range] at hi hj;have h1:l[i+1]! =l[j+1]!:=congrArg Prod.fst h;have h2:=eI.1 hd;rcases Nat.lt_trichotomy i j with k|k|k
 · exact absurd h1 (h2 (i+1) (j+1) (by omega) (by omega))
 · exact k
 · exact absurd h1.symm (h2 (j+1) (i+1) (by omega) (by omega))
theorem P0 (l:List Int) (x:Int) (hl:l.length<=1000000):
 (∀k,k<l.length->l[k]! =x->(∀j,j<k->l[j]!≠x)->kY l x=some (k:Int))/\((∀k,k<l.length->l[k]!≠x)->kY l x=some (-1)):=by
 have k1:=mS (body:=iJ) (fun i=>(l,x,(l.length:Int),(i:Int))) l.length (fun i=>l[i]! =x) (fun i=>(i:Int)) (e:= -1) (fun i hi=>by
  unfold iJ;simp only [aS (show (i:Int)<(l.length:Int) by omega),cond_true,aD l i hi,aE,bD (show i<1000000000 by omega)]
  refine ⟨fun h=>?_,fun h=>?_⟩
  · rw [gL h.symm];rfl
  · rw [fM (fun k=>h k.symm)];rfl) (by
  unfold iJ;simp only [aM (show¬(l.length:Int)<(l.length:Int) by omega),cond_false])
 exact ⟨fun k hk h1 h2=>k1.1 k hk h1 h2,fun h=>k1.2 h⟩
theorem MZ (l:List Int) (x:Int) (hl:l.length<=1000000):iK l x=some (decide (x∈l)):=by
 unfold iK
 by_cases hx:x∈l
 · obtain ⟨k,k1,k2,k3⟩:=I0 (c:=fun k=>l[k]! =x) (bA.1 hx)
   rw [(P0 l x hl).1 k k1 k2 k3,aE,aS hx,aS (by omega)]
 · rw [(P0 l x hl).2 (fun k hk h=>hx (bA.2 ⟨k,hk,h⟩)),aE,aM hx];rfl
theorem BT {f:List Pt} (fok:dC f) {id:Int} (h:mW f id):sH ⟨f⟩ id=some (eE f id,0):=by
 have h1:=fok.1;have hc:jC ⟨f⟩=some 0:=by rw [sQ];exact congrArg some (mT.2 fok)
 have bs:=UD f id (by omega) (fun i j=>rT fok.2.2)
 unfold sH zB CG;rw [aFQ];simp only [hc,aE,show ((0:Int) !=0)=false from rfl,cond_false];obtain ⟨k,hk,he⟩:=h;rw [bs.1 k hk he];simp only [aE,Bool.not_true,cond_false,show ((0:Int) !=0)=false from rfl,aD f k hk,GP fok.2.2 hk he]
theorem P1 {f:List Pt} (fok:dC f) {t:Int×Int} (r:bX t) (r64:pC t) {a b:Int} (ha:mW f a) (hb:mW f b) (hne:a≠b):qM ⟨f⟩ t a b=some (decide (gM (eE f a) (eE f b) t)):=by
 unfold qM;rw [BT fok ha,aE,BT fok hb,aE];obtain ⟨p1,p2⟩:=gZ fok ha;obtain ⟨q1,q2⟩:=gZ fok hb;rcases GA p1 q1 r64 r with h|⟨h,_⟩
 · rw [h,aE]
 · rw [p2,q2] at h;exact absurd h hne
theorem aFU {f:List Pt} (fok:dC f) {t:Int×Int} (r64:pC t) {x:Int×Int} (hb:lE f x):wS x ⟨f⟩ t=some (decide (gM (eE f x.2) (eE f x.1) t)):=by
 obtain ⟨h1,h2⟩:=hb;obtain ⟨j,j1,j2,j3⟩:=xE fok h1;obtain ⟨k,k1,k2,k3⟩:=xE fok h2;unfold wS;simp only [j2,k2,aE,aD f j j1,aD f k k1,j3,k3,I5 (gZ fok h2).1 (gZ fok h1).1 r64]
end Go.Proofs.YtmlghnibpjlchaaGreat
namespace Go.Proofs.YtmlghnibpjlchaaGreat
open Go.Vm Classical
def sY (f:List Pt):List Int:=f.map fun p=>p.1
theorem AR {f:List Pt} (h:jO f):(sY f).Nodup:=by
 refine sW ?_ ?_
 · exact eI.2 fun i j hij hj e=>by have:=rT h hij hj;rw [e] at this;omega
 · intro x hx y hy e
   obtain ⟨i,hi,rfl⟩:=bA.1 hx;obtain ⟨j,hj,rfl⟩:=bA.1 hy;rw [I6 h hi hj e]
theorem xF {f:List Pt} {id:Int}:id∈sY f↔mW f id:=by
 unfold sY mW;rw [List.mem_map];constructor
 · rintro ⟨p,hp,rfl⟩
   obtain ⟨i,hi,rfl⟩:=bA.1 hp;exact ⟨i,hi,rfl⟩
 · rintro ⟨i,hi,rfl⟩
   exact ⟨f[i]!,cR hi,rfl⟩
structure JK (k:dY):Prop where
 clk:bG k.clock
 perm:(sY k.clock.field.points).Perm k.heap
 cert:(k.clock.certs.list.map fun x=>x.2).Perm (cX k.heap)
 lead: ∀e∈cX k.heap,gM (eE k.clock.field.points e.2) (eE k.clock.field.points e.1) k.clock.now
theorem P2 {c:aW} (ok:eJ c):(c.list.map fun x=>x.2).Nodup:=by
 refine sW ?_ ?_
 · exact eI.2 fun i j hij hj e=>ok.nd i j hij hj (by rw [e])
 · intro x hx y hy e
   obtain ⟨i,hi,rfl⟩:=bA.1 hx;obtain ⟨j,hj,rfl⟩:=bA.1 hy;rcases Nat.lt_trichotomy i j with k|k|k
   · exact absurd e (ok.nd i j k hj)
   · rw [k]
   · exact absurd e.symm (ok.nd j i k hi)
def Y6 (k:dY):Prop:=(∀i,i<k.clock.field.points.length->(k.clock.field.points[i]!).1∈k.heap)/\(cX k.heap).length=k.clock.certs.list.length/\
 ∀i,i<k.clock.certs.list.length->(k.clock.certs.list[i]!).2∈cX k.heap/\gM (eE k.clock.field.points (k.clock.certs.list[i]!).2.2) (eE k.clock.field.points (k.clock.certs.list[i]!).2.1) k.clock.now
def P3 (k:dY):Prop:=(∀i,i<k.heap.length->mW k.clock.field.points k.heap[i]!/\ ∀j,j<i->k.heap[j]!≠k.heap[i]!)/\k.clock.certs.list.length=(cX k.heap).length/\
 ∀i,i<(cX k.heap).length->xC k.clock.certs.list (cX k.heap)[i]!/\gM (eE k.clock.field.points ((cX k.heap)[i]!).2) (eE k.clock.field.points ((cX k.heap)[i]!).1) k.clock.now
theorem zL {l:List BL} {x:Int×Int}:xC l x↔x∈l.map fun y=>y.2:=by
 unfold xC;rw [List.mem_map];constructor
 · rintro ⟨i,hi,rfl⟩;exact ⟨l[i]!,cR hi,rfl⟩
 · rintro ⟨y,hy,rfl⟩
   obtain ⟨i,hi,rfl⟩:=bA.1 hy;exact ⟨i,hi,rfl⟩
theorem aNj {k:dY} (ok:bG k.clock) (hl:k.heap.length=k.clock.field.points.length):Y6 k↔JK k:=by
 have nd:=AR ok.fld.2.2;have il:(sY k.clock.field.points).length=k.clock.field.points.length:=List.length_map ..;have cl:(k.clock.certs.list.map fun x=>x.2).length=k.clock.certs.list.length:=List.length_map ..
 have cn:=P2 ok.crt;constructor
 · rintro ⟨h1,h2,h3⟩
   have pm:(sY k.clock.field.points).Perm k.heap:=sV nd (fun x hx=>by
    obtain ⟨i,hi,rfl⟩:=xF.1 hx;exact h1 i hi) (by omega)
   have pc:(k.clock.certs.list.map fun x=>x.2).Perm (cX k.heap):=sV cn (fun x hx=>by
    obtain ⟨i,hi,rfl⟩:=zL.2 hx;exact (h3 i hi).1) (by omega)
   refine ⟨ok,pm,pc,fun e he=>?_⟩
   obtain ⟨i,hi,rfl⟩:=zL.2 (pc.mem_iff.2 he);exact (h3 i hi).2
 · intro h
   refine ⟨fun i hi=>h.perm.mem_iff.1 (xF.2 ⟨i,hi,rfl⟩),by rw [<- h.cert.length_eq,cl],fun i hi=>?_⟩
   have:=h.cert.mem_iff.1 (zL.1 ⟨i,hi,rfl⟩)
   exact ⟨this,h.lead _ this⟩
theorem aNk {k:dY} (ok:bG k.clock) (hl:k.heap.length=k.clock.field.points.length):P3 k↔JK k:=by
 have nd:=AR ok.fld.2.2;have il:(sY k.clock.field.points).length=k.clock.field.points.length:=List.length_map ..;have cl:(k.clock.certs.list.map fun x=>x.2).length=k.clock.certs.list.length:=List.length_map ..
 constructor
 · rintro ⟨h1,h2,h3⟩
   have hn:k.heap.Nodup:=eI.2 fun i j hij hj e=>(h1 j hj).2 i hij e
   have pm:k.heap.Perm (sY k.clock.field.points):=sV hn (fun x hx=>by
    obtain ⟨i,hi,rfl⟩:=bA.1 hx;exact xF.2 (h1 i hi).1) (by omega)
   have pc:(cX k.heap).Perm (k.clock.certs.list.map fun x=>x.2):=sV (PZ hn) (fun x hx=>by
    obtain ⟨i,hi,rfl⟩:=bA.1 hx;exact zL.1 (h3 i hi).1) (by omega)
   refine ⟨ok,pm.symm,pc.symm,fun e he=>?_⟩
   obtain ⟨i,hi,rfl⟩:=bA.1 he;exact (h3 i hi).2
 · intro h
   have hn:k.heap.Nodup:=h.perm.nodup_iff.1 nd;refine ⟨fun i hi=>⟨xF.1 (h.perm.mem_iff.2 (cR hi)),fun j hj e=>eI.1 hn j i hj hi e⟩,by rw [<- h.cert.length_eq,cl],fun i hi=>?_⟩
   exact ⟨zL.2 (h.cert.mem_iff.2 (cR hi)),h.lead _ (cR hi)⟩
theorem M0 {α:Type} {p q:Prop} [Decidable p] [Decidable q] {a b:α} (h:p↔q):(if p then a else b)=if q then a else b:=by
 by_cases hp:p
 · rw [if_pos hp,if_pos (h.1 hp)]
 · rw [if_neg hp,if_neg (fun k=>hp (h.2 k))]
theorem JL {k:dY} (fit:sT k.clock) (hl:k.heap.length<=1000):jF k=some (if JK k then 0 else 8):=by
 unfold jF;rw [sU fit,aE]
 by_cases ok:bG k.clock
 case neg=>rw [if_neg ok,if_neg (fun h=>ok h.clk)];rfl
 rw [if_pos ok,cB rfl,cond_false]
 by_cases hh:k.heap.length=k.clock.field.points.length
 case neg=>
  rw [dM (by rw [aH,aH];omega),cond_true,if_neg (fun h=>hh ?_)]
  rw [<- h.perm.length_eq];exact List.length_map ..
 rw [cB (by rw [aH,aH];omega),cond_false,<- M0 (aNj ok hh)]
 have bd:=ok.bd;have inner:=JJ (body:=nN) (fun i=>(cX k.heap,k.clock.certs.list,(k.clock.certs.list.length:Int),(i:Int),k.clock.now.1,k.clock.now.2,k.clock.field.points,k.clock.certs.next_,k.clock.certs.list,k.clock.agenda.slots.uses,k.clock.agenda.slots.used,k.clock.agenda.slots.free,k.clock.agenda.heap,k.clock.agenda.where_,k.clock.due,k.heap)) k.clock.certs.list.length
  (fun i=>(k.clock.certs.list[i]!).2∈cX k.heap/\gM (eE k.clock.field.points (k.clock.certs.list[i]!).2.2) (eE k.clock.field.points (k.clock.certs.list[i]!).2.1) k.clock.now) (r:= .done 8) (e:= .done 0) (fun i hi=>by
  have hb:=ok.known i hi;have hv:=ok.crt.cv i hi;unfold nN;simp only [aS (show (i:Int)<(k.clock.certs.list.length:Int) by omega),cond_true,aD k.clock.certs.list i hi,aE,JX (cX k.heap) _ (by rw [kQ];omega),P1 ok.fld (t:=(k.clock.now.1,k.clock.now.2)) ok.nowv ok.now64 hb.2 hb.1 (fun h=>hv.2.2.2.2 h.symm),bD (show i<1000000000 by omega)]
  by_cases h1:(k.clock.certs.list[i]!).2∈cX k.heap
  · rw [aS h1]
    by_cases h2:gM (eE k.clock.field.points (k.clock.certs.list[i]!).2.2) (eE k.clock.field.points (k.clock.certs.list[i]!).2.1) k.clock.now
    · rw [show decide (gM (eE k.clock.field.points (k.clock.certs.list[i]!).2.2) (eE k.clock.field.points (k.clock.certs.list[i]!).2.1) (k.clock.now.1,k.clock.now.2))=true from aS h2]
      exact ⟨fun h=>absurd ⟨h1,h2⟩ h,fun _=>rfl⟩
    · rw [show decide (gM (eE k.clock.field.points (k.clock.certs.list[i]!).2.2) (eE k.clock.field.points (k.clock.certs.list[i]!).2.1) (k.clock.now.1,k.clock.now.2))=false from aM h2]
      exact ⟨fun _=>rfl,fun h=>absurd h.2 h2⟩
  · rw [aM h1]
    exact ⟨fun _=>rfl,fun h=>absurd h.1 h1⟩) (by
  unfold nN;simp only [aM (show¬(k.clock.certs.list.length:Int)<(k.clock.certs.list.length:Int) by omega),cond_false])
 have outer:=JJ (body:=nO) (fun i=>(k.clock.field.points,(k.clock.field.points.length:Int),(i:Int),k.clock.now.1,k.clock.now.2,k.clock.field.points,k.clock.certs.next_,k.clock.certs.list,k.clock.agenda.slots.uses,k.clock.agenda.slots.used,k.clock.agenda.slots.free,k.clock.agenda.heap,k.clock.agenda.where_,k.clock.due,k.heap)) k.clock.field.points.length
  (fun i=>(k.clock.field.points[i]!).1∈k.heap) (r:=8) (e:=if (cX k.heap).length=k.clock.certs.list.length/\ ∀i,i<k.clock.certs.list.length->(k.clock.certs.list[i]!).2∈cX k.heap/\gM (eE k.clock.field.points (k.clock.certs.list[i]!).2.2) (eE k.clock.field.points (k.clock.certs.list[i]!).2.1) k.clock.now then 0 else 8) (fun i hi=>by
  unfold nO;simp only [aS (show (i:Int)<(k.clock.field.points.length:Int) by omega),cond_true,aD k.clock.field.points i hi,aE,MZ k.heap _ (by omega),bD (show i<1000000000 by omega)]
  by_cases h1:(k.clock.field.points[i]!).1∈k.heap
  · rw [aS h1];exact ⟨fun h=>absurd h1 h,fun _=>rfl⟩
  · rw [aM h1];exact ⟨fun _=>rfl,fun h=>absurd h h1⟩) (by
  unfold nO;simp only [aH,aM (show¬(k.clock.field.points.length:Int)<(k.clock.field.points.length:Int) by omega),cond_false,D8 k.heap hl,aE]
  by_cases h1:(cX k.heap).length=k.clock.certs.list.length
  · rw [cB (by omega),cond_false]
    refine (show _=_ from inner).trans ?_
    by_cases h2: ∀i,i<k.clock.certs.list.length->(k.clock.certs.list[i]!).2∈cX k.heap/\gM (eE k.clock.field.points (k.clock.certs.list[i]!).2.2) (eE k.clock.field.points (k.clock.certs.list[i]!).2.1) k.clock.now
    · rw [if_pos h2,if_pos ⟨h1,h2⟩]
    · rw [if_neg h2,if_neg (fun h=>h2 h.2)]
  · rw [dM (by omega),cond_true,if_neg (fun h=>h1 h.1)])
 refine (show _=_ from outer).trans ?_
 by_cases h1: ∀i,i<k.clock.field.points.length->(k.clock.field.points[i]!).1∈k.heap
 · rw [if_pos h1]
   congr 1
   exact M0 (q:=Y6 k) ⟨fun h=>⟨h1,h.1,h.2⟩,fun h=>⟨h.2.1,h.2.2⟩⟩
 · rw [if_neg h1,if_neg (fun h:Y6 k=>h1 h.1)]
theorem aFV {c:aO} (ok:bG c) (es:List (Int×Int)) (kn: ∀x∈es,lE c.field.points x):
 wT c es=some (decide (c.certs.list.length=es.length/\ ∀i,i<es.length->xC c.certs.list es[i]!/\gM (eE c.field.points (es[i]!).2) (eE c.field.points (es[i]!).1) c.now)):=by
 have bd:=ok.bd;unfold wT;simp only [aH]
 by_cases h0:c.certs.list.length=es.length
 case neg=>rw [dM (by omega),cond_true,aM (fun h=>h0 h.1)]
 rw [cB (by omega),cond_false]
 have key:=JJ (body:=pQ) (fun i=>(es,(i:Int),c.now.1,c.now.2,c.field.points,c.certs.next_,c.certs.list,c.agenda.slots.uses,c.agenda.slots.used,c.agenda.slots.free,c.agenda.heap,c.agenda.where_,c.due)) es.length
  (fun i=>xC c.certs.list es[i]!/\gM (eE c.field.points (es[i]!).2) (eE c.field.points (es[i]!).1) c.now) (r:=false) (e:=true) (fun i hi=>by
  have ceta2:aW.mk c.certs.next_ c.certs.list=c.certs:=rfl;unfold pQ;simp only [aH,aS (show (i:Int)<(es.length:Int) by omega),cond_true,aD es i hi,aE,ceta2,xD c.certs es[i]! (by omega),aFU ok.fld (t:=(c.now.1,c.now.2)) ok.now64 (kn _ (cR hi)),bD (show i<1000000000 by omega)]
  by_cases h1:xC c.certs.list es[i]!
  · rw [aS h1]
    by_cases h2:gM (eE c.field.points (es[i]!).2) (eE c.field.points (es[i]!).1) c.now
    · rw [show decide (gM (eE c.field.points (es[i]!).2) (eE c.field.points (es[i]!).1) (c.now.1,c.now.2))=true from aS h2]
      exact ⟨fun h=>absurd ⟨h1,h2⟩ h,fun _=>rfl⟩
    · rw [show decide (gM (eE c.field.points (es[i]!).2) (eE c.field.points (es[i]!).1) (c.now.1,c.now.2))=false from aM h2]
      exact ⟨fun _=>rfl,fun h=>absurd h.2 h2⟩
  · rw [aM h1]
    exact ⟨fun _=>rfl,fun h=>absurd h.1 h1⟩) (by
  unfold pQ;simp only [aH,aM (show¬(es.length:Int)<(es.length:Int) by omega),cond_false])
 refine (show _=_ from key).trans ?_
 by_cases h2: ∀i,i<es.length->xC c.certs.list es[i]!/\gM (eE c.field.points (es[i]!).2) (eE c.field.points (es[i]!).1) c.now
 · rw [if_pos h2,aS ⟨h0,h2⟩]
 · rw [if_neg h2,aM (fun h=>h2 h.2)]
theorem aFW {σ ρ:Type} {body:σ->Option (bH σ ρ)} (st:Nat->σ) (n:Nat) (P:Nat->Prop) {r:ρ} (h: ∀i,i<n->(¬P i->body (st i)=some (.done r))/\(P i->body (st i)=some (.next (st (i+1)))))
 (hx: ¬ ∀i,i<n->P i):aK body (st 0)=some r:=by
 obtain ⟨i,hi⟩:=Classical.not_forall.1 hx;obtain ⟨hi,hx⟩:=Classical.not_imp.1 hi;obtain ⟨m,m1,m2,m3⟩:=I0 (c:=fun i=> ¬P i) ⟨i,hi,hx⟩
 rw [eN st m fun j hj=>(h j (by omega)).2 (Classical.not_not.1 (m3 j hj))]
 exact aQ ((h m m1).1 m2)
def ckS (k:dY) (i:Nat):=((i:Int),k.clock.now.1,k.clock.now.2,k.clock.field.points,k.clock.certs.next_,k.clock.certs.list,k.clock.agenda.slots.uses,k.clock.agenda.slots.used,k.clock.agenda.slots.free,k.clock.agenda.heap,k.clock.agenda.where_,k.clock.due,k.heap)
theorem JM {k:dY} (fit:sT k.clock) (hl:k.heap.length<=1000):fE k=some (if JK k then 0 else 8):=by
 unfold fE;rw [JI fit,aE]
 by_cases ok:bG k.clock
 case neg=>rw [if_neg ok,if_neg (fun h=>ok h.clk)];rfl
 rw [if_pos ok,cB rfl,cond_false]
 by_cases hh:k.heap.length=k.clock.field.points.length
 case neg=>
  rw [dM (by rw [aH,aH];omega),cond_true,if_neg (fun h=>hh ?_)]
  rw [<- h.perm.length_eq];exact List.length_map ..
 rw [cB (by rw [aH,aH];omega),cond_false,<- M0 (aNk ok hh)]
 have bd:=ok.bd;have step: ∀i,i<k.heap.length->(¬(mW k.clock.field.points k.heap[i]!/\ ∀j,j<i->k.heap[j]!≠k.heap[i]!)->gK (ckS k i)=some (.done 8))/\((mW k.clock.field.points k.heap[i]!/\ ∀j,j<i->k.heap[j]!≠k.heap[i]!)->gK (ckS k i)=some (.next (ckS k (i+1)))):=by
  intro i hi;unfold ckS;unfold gK;simp only [aH,aS (show (i:Int)<(k.heap.length:Int) by omega),cond_true,aD k.heap i hi,aE]
  by_cases h1:mW k.clock.field.points k.heap[i]!
  case neg=>
   rw [R0 ok.fld h1];exact ⟨fun _=>rfl,fun h=>absurd h.1 h1⟩
  obtain ⟨m,m1,m2,m3⟩:=xE ok.fld h1;rw [m2];simp only [aE,aM (show¬(m:Int)<0 by omega),cond_false]
  have inner:=JJ (body:=nS) (fun j=>((i:Int),(j:Int),k.clock.now.1,k.clock.now.2,k.clock.field.points,k.clock.certs.next_,k.clock.certs.list,k.clock.agenda.slots.uses,k.clock.agenda.slots.used,k.clock.agenda.slots.free,k.clock.agenda.heap,k.clock.agenda.where_,k.clock.due,k.heap)) i
   (fun j=>k.heap[j]!≠k.heap[i]!) (r:= .done 8) (e:= .next (((i+1:Nat):Int),k.clock.now.1,k.clock.now.2,k.clock.field.points,k.clock.certs.next_,k.clock.certs.list,k.clock.agenda.slots.uses,k.clock.agenda.slots.used,k.clock.agenda.slots.free,k.clock.agenda.heap,k.clock.agenda.where_,k.clock.due,k.heap)) (fun j hj=>by
   unfold nS;simp only [aS (show (j:Int)<(i:Int) by omega),cond_true,aD k.heap j (by omega),aD k.heap i hi,aE,bD (show j<1000000000 by omega)]
   by_cases h:k.heap[j]! =k.heap[i]!
   · rw [gL h];exact ⟨fun _=>rfl,fun k=>absurd h k⟩
   · rw [fM h];exact ⟨fun k=>absurd h k,fun _=>rfl⟩) (by
   unfold nS;simp only [aM (show¬(i:Int)<(i:Int) by omega),cond_false,bD (show i<1000000000 by omega)])
  have inner':=(show _=_ from inner)
  by_cases h2: ∀j,j<i->k.heap[j]!≠k.heap[i]!
  · rw [if_pos h2] at inner'
    exact ⟨fun h=>absurd ⟨h1,h2⟩ h,fun _=>inner'⟩
  · rw [if_neg h2] at inner'
    exact ⟨fun _=>inner',fun h=>absurd h.2 h2⟩
 by_cases hP: ∀i,i<k.heap.length->mW k.clock.field.points k.heap[i]!/\ ∀j,j<i->k.heap[j]!≠k.heap[i]!
 · have jus:=aFV ok (cX k.heap) (fun x hx=>by
    obtain ⟨h1,h2⟩:=FG hx;obtain ⟨i,hi,e1⟩:=bA.1 h1;obtain ⟨j,hj,e2⟩:=bA.1 h2;exact ⟨e1▸(hP i hi).1,e2▸(hP j hj).1⟩)
   have o:=JJ (body:=gK) (ckS k) k.heap.length _ (r:=8) (e:=if P3 k then 0 else 8) step (by
    have ceta:(aO.mk (k.clock.now.1,k.clock.now.2) (Field.mk k.clock.field.points) (aW.mk k.clock.certs.next_ k.clock.certs.list) (aJ.mk (aR.mk k.clock.agenda.slots.uses k.clock.agenda.slots.used k.clock.agenda.slots.free) k.clock.agenda.heap k.clock.agenda.where_) k.clock.due)=k.clock:=rfl;unfold gK ckS
    simp only [aH,aM (show¬(k.heap.length:Int)<(k.heap.length:Int) by omega),cond_false,Y4 k.heap hl,aE,ceta,jus]
    by_cases h2:k.clock.certs.list.length=(cX k.heap).length/\ ∀i,i<(cX k.heap).length->xC k.clock.certs.list (cX k.heap)[i]!/\gM (eE k.clock.field.points ((cX k.heap)[i]!).2) (eE k.clock.field.points ((cX k.heap)[i]!).1) k.clock.now
    · rw [aS h2,if_pos (show P3 k from ⟨hP,h2.1,h2.2⟩)];rfl
    · rw [aM h2,if_neg (fun h:P3 k=>h2 ⟨h.2.1,h.2.2⟩)];rfl)
   refine (show _=_ from o).trans ?_;rw [if_pos hP]
 · rw [if_neg (fun h:P3 k=>hP h.1)]
   exact aFW (body:=gK) (ckS k) k.heap.length _ (r:=8) step hP
end Go.Proofs.YtmlghnibpjlchaaGreat
namespace Go.Proofs.YtmlghnibpjlchaaGreat
open Go.Vm Classical
theorem R4 {f:List Pt} (fok:dC f) {l:List Int} (pm:(sY f).Perm l):MY f (cX l):=by
 have nd:=pm.nodup_iff.1 (AR fok.2.2);have f1:=fok.1;have ln:l.length=f.length:=by rw [<- pm.length_eq];exact List.length_map ..
 have hp: ∀e∈cX l,lE f e:=fun e he=>⟨xF.1 (pm.mem_iff.2 (FG he).1),xF.1 (pm.mem_iff.2 (FG he).2)⟩
 refine ⟨by rw [kQ];omega,fun e he=>?_,hp⟩
 obtain ⟨⟨p1,p2⟩,q1,q2⟩:=And.intro (gZ fok (hp e he).1) (gZ fok (hp e he).2);have ne:=Y5 nd he;unfold fW at p1 q1;unfold iB;omega
def K4 (l:List Int) (i j:Nat):List Int:=(l.set i l[j]!).set j l[i]!
theorem K5 {l:List Int} {i j:Nat} (hi:i<l.length) (hj:j<l.length):(K4 l i j).Perm l:=by
 unfold K4;rw [getElem!_pos l i hi,getElem!_pos l j hj];exact List.set_set_perm hi hj
theorem Y7 (l:List Int) (hl:l.length<=1000000):pU l l=some true:=by
 unfold pU;rw [cB rfl,cond_false]
 have:=eN (body:=kZ) (fun i=>(l,l,(i:Int))) l.length (fun i hi=>by
  unfold kZ;simp only [aH,aS (show (i:Int)<(l.length:Int) by omega),cond_true,aD l i hi,aE,cB rfl,cond_false,bD (show i<1000000000 by omega)])
 rw [show (l,l,(0:Int))=(l,l,((0:Nat):Int)) from rfl,this];refine aQ ?_;unfold kZ;simp only [aH,aM (show¬(l.length:Int)<(l.length:Int) by omega),cond_false]
theorem R5 (l:List (Int×Int)) (hl:l.length<=1048576):lV l l=some true:=by
 unfold lV;rw [cB rfl,cond_false]
 have:=eN (body:=jN) (fun i=>(l,l,(i:Int))) l.length (fun i hi=>by
  unfold jN;simp only [aH,aS (show (i:Int)<(l.length:Int) by omega),cond_true,aD l i hi,aE,gL rfl,Bool.and_self,Bool.not_true,cond_false,bD (show i<1000000000 by omega)])
 rw [show (l,l,(0:Int))=(l,l,((0:Nat):Int)) from rfl,this];refine aQ ?_;unfold jN;simp only [aH,aM (show¬(l.length:Int)<(l.length:Int) by omega),cond_false]
theorem VP {k:dY} (sh:D7 k.clock) (hl:k.heap.length<=1000000):wX k k=some true:=by
 unfold wX;rw [R3 sh,aE,cond_true,Y7 _ hl,aE]
theorem R6 (k:dY):qI k=some true\/(qI k=some false/\D7 k.clock/\k.heap.length<=70):=by
 unfold qI
 rcases PX k.clock with e|⟨e,sh⟩
 · rw [e];exact .inl rfl
 rw [e,aE,cond_false,aH]
 by_cases h:70<k.heap.length
 · rw [aS (by omega)];exact .inl rfl
 · rw [aM (by omega)];exact .inr ⟨rfl,sh,by omega⟩
end Go.Proofs.YtmlghnibpjlchaaGreat
namespace Go.Proofs.YtmlghnibpjlchaaGreat
open Go.Vm Classical
def sZ:aR:=⟨List.replicate 200 0,List.replicate 200 false,(List.range 200).map fun j:Nat=>(199:Int) - (j:Int)⟩
def D9:aJ:=⟨sZ,[],List.replicate 200 (-1)⟩
def gN (f:Field) (t:Int×Int):aO:=⟨t,f,⟨0,[]⟩,D9,[]⟩
theorem P4:DP 200=some (sZ,0):=
 (by kernel_rfl:DP 200=aK FU (200,200,0,List.replicate 200 0,List.replicate 200 false,List.replicate 200 0)).trans (jA.2 ⟨300,by kernel_rfl⟩)
theorem VQ:hG [-1] 200=some (List.replicate 200 (-1)):=by
 unfold hG uH;have m:eM (aA .u64 (Int.ofNat ([-1]:List Int).length)) (aA .u64 200)=some (0,200):=by
  rw [show aA .u64 (Int.ofNat ([-1]:List Int).length)=1 from by kernel_rfl,show aA .u64 200=200 from by kernel_rfl,D0 ⟨by decide,by decide⟩ ⟨by decide,by decide⟩]
  rfl
 rw [m];exact (by kernel_rfl:_=aK kI (1,-1::List.replicate 199 0)).trans (jA.2 ⟨20,by kernel_rfl⟩)
theorem JY:wI 200=some (D9,0):=by
 unfold wI;rw [P4,aE,cB rfl,cond_false,VQ];rfl
theorem R7:tS 200=some sZ:=
 (by kernel_rfl:tS 200=aK zC (199,List.replicate 200 0,List.replicate 200 false,[])).trans (jA.2 ⟨300,by kernel_rfl⟩)
theorem R8:tT 200=some D9:=by
 unfold tT;rw [R7,aE];exact jA.2 ⟨300,by kernel_rfl⟩
theorem R9 {f:Field} (hf:f.points.length<=64) (t:Int×Int):tU f t=some (gN f t):=by
 unfold tU mB;rw [bQ (by omega),aE,aE,R8]
 rfl
theorem M1 (f:Field) {t:Int×Int} (r64:pC t):zX f t=some (if hY f.points≠0 then (pW,hY f.points) else if bX t then (gN f t,0) else (pW,8)):=by
 unfold zX;rw [sQ,aE]
 by_cases h:hY f.points=0
 · have fok:=mT.1 h
   have f1:=fok.1;rw [cB h,cond_false,fF r64,aE,if_neg (show¬hY f.points≠0 from fun k=>k h)]
   by_cases rt:bX t
   · rw [if_pos rt,if_pos rt,cB rfl,cond_false,JY,aE,bQ (show f.points.length<=1048576 by omega),aE]
     rfl
   · rw [if_neg rt,if_neg rt,dM (by decide),cond_true]
 · rw [dM h,cond_true,if_pos h]
theorem vI {α:Type} [Inhabited α] {n i:Nat} (a:α) (h:i<n):(List.replicate n a)[i]! =a:=by
 rw [getElem!_pos _ i (by rw [List.length_replicate];exact h),List.getElem_replicate]
theorem aFX {i:Nat} (hi:i<200):(i:Int)∈sZ.free:=by
 refine List.mem_map.2 ⟨199-i,List.mem_range.2 (by omega),?_⟩
 show (199:Int) - ((199-i:Nat):Int)=(i:Int);omega
theorem kS:sZ.uses.length=200:=List.length_replicate ..
set_option maxRecDepth 100000 in
theorem Y8:sZ.free.length=200:=by
 unfold sZ;exact (List.length_map _).trans List.length_range
theorem VS:eY sZ where
 n1:=by rw [kS];omega
 n2:=by rw [kS];omega
 ul:=by rw [kS];exact List.length_replicate ..
 fr:=fun x hx=>by
  obtain ⟨j,hj,rfl⟩:=List.mem_map.1 hx
  have:=List.mem_range.1 hj
  rw [kS];omega
 fd:=by
  refine sW List.nodup_range fun i hi j hj h=>?_
  have h:(199:Int) - (i:Int)=199- (j:Int):=h;omega
 uf:=fun i hi=>by
  rw [kS] at hi;rw [show sZ.used[i]! =false from vI false hi];constructor
  · intro h;cases h
  · intro h;exact absurd (aFX hi) h
 us:=fun i hi=>by
  rw [kS] at hi;rw [show sZ.uses[i]! =0 from vI 0 hi,show sZ.used[i]! =false from vI false hi];exact ⟨by decide,by decide,fun h=>by cases h⟩
set_option maxRecDepth 100000 in
theorem SA:fS D9 where
 so:=VS
 wl:=(List.length_replicate (n:=200) (a:=(-1:Int))).trans kS.symm
 hl:=((Nat.zero_add _).trans Y8).trans kS.symm
 fwd:=fun i hi h=>by
  rw [show D9.slots.used[i]! =false from vI false (by rw [<- kS];exact hi)] at h
  cases h
 un:=fun i hi _=>vI (-1) (by rw [<- kS];exact hi)
 ev:=fun w hw=>absurd hw (Nat.not_lt_zero w)
 nd:=fun v w _ hw=>absurd hw (Nat.not_lt_zero w)
 ord:=fun k _ hk=>absurd hk (Nat.not_lt_zero k)
theorem VT {f:Field} (fok:dC f.points) {t:Int×Int} (r:bX t) (r64:pC t):bG (gN f t) where
 nowv:=r
 now64:=r64
 fld:=fok
 crt:=(⟨by decide,by decide,by decide,fun i hi=>absurd hi (Nat.not_lt_zero i),fun i hi=>absurd hi (Nat.not_lt_zero i),fun i j _ hj=>absurd hj (Nat.not_lt_zero j),fun i j _ hj=>absurd hj (Nat.not_lt_zero j)⟩:eJ ⟨0,[]⟩)
 agd:=SA
 w200:=List.length_replicate ..
 hd:=rfl
 known:=fun i hi=>absurd hi (Nat.not_lt_zero i)
 fol:=rfl
theorem M2 (f:Field) (t:Int×Int):F1 (gN f t) 0:=by
 refine ⟨Nat.le_refl _,Int.le_refl _,fun j hj=>?_⟩
 rw [show (gN f t).agenda.slots.uses[j]! =0 from vI 0 (by rw [<- kS];exact hj)]
 decide
end Go.Proofs.YtmlghnibpjlchaaGreat
namespace Go.Proofs.YtmlghnibpjlchaaGreat
open Go.Vm Classical
theorem Y9 {f:List Pt} (fok:dC f) {t:Int×Int} (r64:pC t) {a b:Int} (ha:mW f a) (hb:mW f b):tR ⟨f⟩ t a b=some (decide (gM (eE f a) (eE f b) t)):=by
 obtain ⟨j,j1,j2,j3⟩:=xE fok ha;obtain ⟨k,k1,k2,k3⟩:=xE fok hb;unfold tR;simp only [j2,k2,aE,aD f j j1,aD f k k1,j3,k3,I5 (gZ fok ha).1 (gZ fok hb).1 r64]
theorem aFY {i:Nat} (hi:i<1000000000) (h0:0<i):aA .i64 (Int.tdiv (aA .i64 ((i:Int) -1)) 2)=(((i-1) / 2:Nat):Int):=by
 rw [show aA .i64 ((i:Int) -1)=((i-1:Nat):Int) from AJ hi h0,Int.tdiv_eq_ediv_of_nonneg (by omega),DZ ⟨by omega,by omega⟩];omega
noncomputable def xV (f:List Pt) (t:Int×Int):Nat->List Int->List Int
 |0,l=>l
 |i+1,l=>if gM (eE f l[i+1]!) (eE f l[i / 2]!) t then xV f t (i / 2) (K4 l (i+1) (i / 2)) else l
termination_by i=>i
decreasing_by omega
theorem SC (f:List Pt) (t:Int×Int): ∀(i:Nat) (l:List Int),i<l.length->(xV f t i l).Perm l:=by
 intro i
 induction i using Nat.strongRecOn with
 |ind i ih=>
  intro l hi;cases i with
  |zero=>unfold xV;exact List.Perm.refl _
  |succ i=>
   unfold xV;split
   · have sp:=K5 (l:=l) hi (show i / 2<l.length by omega)
     exact (ih (i / 2) (by omega) _ (by rw [sp.length_eq];omega)).trans sp
   · exact List.Perm.refl _
theorem K6 {f:List Pt} (fok:dC f) {t:Int×Int} (r:bX t) (r64:pC t) (c0:List Pt×Int×Int×Int×List Int): ∀(i:Nat) (l:List Int),(∀x∈l,mW f x)->l.Nodup->i<l.length->l.length<=1000->c0.2.2.2.2.length=l.length->
 aK (eL c0) ((i:Int),l,f,t.1,t.2)=some (xV f t i l)/\aK iQ ((i:Int),f,t.1,t.2,l)=some (xV f t i l):=by
 intro i
 induction i using Nat.strongRecOn with
 |ind i ih=>
  intro l hp nd hi hl hc;cases i with
  |zero=>
   unfold xV;refine ⟨aQ ?_,aQ ?_⟩
   · unfold eL
     simp only [aM (show¬(0:Int)<((0:Nat):Int) by omega),cond_false,hc,beq_self_eq_true,cond_true]
   · unfold iQ
     simp only [aM (show¬(0:Int)<((0:Nat):Int) by omega),cond_false]
  |succ i=>
   have hu:=aFY (i:=i+1) (by omega) (by omega)
   rw [show (i+1-1) / 2=i / 2 from rfl] at hu;have hj:i / 2<l.length:=by omega
   have h1:=hp _ (cR hi);have h2:=hp _ (cR hj);have ne:l[i+1]!≠l[i / 2]!:=fun h=>eI.1 nd (i / 2) (i+1) (by omega) hi h.symm
   have g1:=aD l (i+1) hi;have g2:=aD l (i / 2) hj;have g3:=aD (l.set (i+1) l[i / 2]!) (i / 2) (by rw [List.length_set];exact hj)
   have a1:=P1 fok r r64 h1 h2 ne;have a2:=Y9 fok r64 h1 h2;have sp:=K5 (l:=l) hi hj;have sl:(K4 l (i+1) (i / 2)).length=l.length:=sp.length_eq;unfold xV
   by_cases c:gM (eE f l[i+1]!) (eE f l[i / 2]!) t
   · rw [if_pos c]
     rw [aS c] at a1 a2;have s1:eL c0 (((i+1:Nat):Int),l,f,t.1,t.2)=some (.next (((i / 2:Nat):Int),K4 l (i+1) (i / 2),f,t.1,t.2)):=by
      unfold eL;simp only [aS (show (0:Int)<((i+1:Nat):Int) by omega),cond_true,g1,aE,hu,g2,a1,vG,g3]
      rfl
     have s2:iQ (((i+1:Nat):Int),f,t.1,t.2,l)=some (.next (((i / 2:Nat):Int),f,t.1,t.2,K4 l (i+1) (i / 2))):=by
      unfold iQ;simp only [aS (show (0:Int)<((i+1:Nat):Int) by omega),cond_true,g1,aE,hu,g2,a2,vG,g3]
      rfl
     rw [bE s1,bE s2];exact ih (i / 2) (by omega) _ (fun x hx=>hp x (sp.mem_iff.1 hx)) (sp.nodup_iff.2 nd) (by omega) (by omega) (by omega)
   · rw [if_neg c]
     rw [aM c] at a1 a2;refine ⟨aQ ?_,aQ ?_⟩
     · unfold eL
       simp only [aS (show (0:Int)<((i+1:Nat):Int) by omega),cond_true,g1,aE,hu,g2,a1,cond_false,hc,beq_self_eq_true]
     · unfold iQ
       simp only [aS (show (0:Int)<((i+1:Nat):Int) by omega),cond_true,g1,aE,hu,g2,a2,cond_false]
theorem ZA {f:List Pt} (fok:dC f) {t:Int×Int} (r:bX t) (r64:pC t) {i:Nat} {l:List Int} (hp: ∀x∈l,mW f x) (nd:l.Nodup) (hi:i<l.length) (hl:l.length<=1000):qP ⟨f⟩ t l (i:Int)=some (xV f t i l):=by
 unfold qP;rw [bQ (by omega),aE]
 exact (K6 fok r r64 ([],0,0,0,l) i l hp nd hi hl rfl).2
theorem aFZ {f:List Pt} (fok:dC f) {t:Int×Int} (r:bX t) (r64:pC t) {i:Nat} {l:List Int} (hp: ∀x∈l,mW f x) (nd:l.Nodup) (hi:i<l.length) (hl:l.length<=1000):kW (f,t.1,t.2,(i:Int),l)=some (xV f t i l):=by
 unfold kW;exact (K6 fok r r64 (f,t.1,t.2,(i:Int),l) i l hp nd hi hl rfl).1
end Go.Proofs.YtmlghnibpjlchaaGreat
namespace Go.Proofs.YtmlghnibpjlchaaGreat
open Go.Vm Classical
def bS (f:List Pt) (t:Int×Int) (c:aO) (i:Nat) (l:List Int):=
 (f,(f.length:Int),(i:Int),f,t.1,t.2,(0:Int),(0:Int),(0:Int),c.now.1,c.now.2,c.field.points,c.certs.next_,c.certs.list,c.agenda.slots.uses,c.agenda.slots.used,c.agenda.slots.free,c.agenda.heap,c.agenda.where_,c.due,(0:Int),(0:Int),(0:Int),l)
def hS (f:List Pt) (t:Int×Int) (i:Nat) (l:List Int):=((i:Int),f,t.1,t.2,(0:Int),(0:Int),(0:Int),l)
theorem ZB {f:Field} (fok:dC f.points) {t:Int×Int} (rt:bX t) (r64:pC t): ∀(d i:Nat) (l:List Int),f.points.length-i<=d->i<=f.points.length->((sY f.points).take i).Perm l->
 ∃r:dY,aK iP (bS f.points t (gN f t) i l)=some (r,0)/\aK fR (hS f.points t i l)=some r/\D7 r.clock/\r.heap.length<=1000:=by
 have f1:=fok.1;have il:(sY f.points).length=f.points.length:=List.length_map ..
 have ceta:aO.mk ((gN f t).now.1,(gN f t).now.2) (Field.mk (gN f t).field.points) (aW.mk (gN f t).certs.next_ (gN f t).certs.list) (aJ.mk (aR.mk (gN f t).agenda.slots.uses (gN f t).agenda.slots.used (gN f t).agenda.slots.free) (gN f t).agenda.heap (gN f t).agenda.where_) (gN f t).due=gN f t:=rfl;have feta:Field.mk f.points=f:=rfl
 have teta:((t.1,t.2):Int×Int)=t:=rfl;have fin: ∀l:List Int,(sY f.points).Perm l-> ∃r:dY,aK iP (bS f.points t (gN f t) f.points.length l)=some (r,0)/\aK fR (hS f.points t f.points.length l)=some r/\D7 r.clock/\r.heap.length<=1000:=by
  intro l pm;have ll:l.length=f.points.length:=by rw [<- pm.length_eq,il]
  obtain ⟨r,r1,r2,r3⟩:=PU (VT fok rt r64) rfl (R4 fok pm) (M2 f t) (by rw [kQ];omega)
  have r1:qL (gN f t) f (cX l)=some (r,0):=r1;have r2:jX (gN f t) f (cX l)=some (r,0):=r2;refine ⟨⟨r,l⟩,aQ ?_,aQ ?_,r3.ok.short,by show l.length<=1000;omega⟩
  · unfold iP bS
    simp only [aM (show¬(f.points.length:Int)<(f.points.length:Int) by omega),cond_false,D8 l (by omega),aE,ceta,feta,r1]
  · unfold fR hS
    simp only [aH,aM (show¬(f.points.length:Int)<(f.points.length:Int) by omega),cond_false,feta,teta,R9 f1 t,aE,Y4 l (by omega),r2]
 intro d
 induction d with
 |zero=>
  intro i l hd hi pm
  have:i=f.points.length:=by omega
  subst this;rw [<- il,List.take_length] at pm;exact fin l pm
 |succ d ih=>
  intro i l hd hi pm
  by_cases he:i=f.points.length
  · subst he
    rw [<- il,List.take_length] at pm;exact fin l pm
  have hi':i<f.points.length:=by omega
  have nd:=AR fok.2.2;have ll:l.length=i:=by rw [<- pm.length_eq,List.length_take];omega
  have idi:(sY f.points)[i]! =(f.points[i]!).1:=by
   rw [getElem!_pos (sY f.points) i (by omega),getElem!_pos f.points i hi']
   exact List.getElem_map ..
  have pm1:((sY f.points).take (i+1)).Perm (l++[(f.points[i]!).1]):=by
   rw [kO (by omega),idi]
   exact pm.append_right _
  have nd1:(l++[(f.points[i]!).1]).Nodup:=pm1.nodup_iff.1 (nd.sublist (List.take_sublist _ _));have hp1: ∀x∈l++[(f.points[i]!).1],mW f.points x:=fun x hx=>xF.1 (List.mem_of_mem_take (pm1.mem_iff.2 hx))
  have l1:(l++[(f.points[i]!).1]).length=i+1:=by rw [List.length_append,List.length_singleton,ll]
  have ap:bM l [(f.points[i]!).1]=some (l++[(f.points[i]!).1]):=mD (by rw [List.length_singleton];omega)
  have cl:cG l=some l:=bQ (by omega)
  have sc:=bD (show i<1000000000 by omega)
  have g:=aD f.points i hi';have s1:iP (bS f.points t (gN f t) i l)=some (.next (bS f.points t (gN f t) (i+1) (xV f.points t i (l++[(f.points[i]!).1])))):=by
   unfold iP bS;simp only [aS (show (i:Int)<(f.points.length:Int) by omega),cond_true,g,aE,ap,aFZ fok rt r64 hp1 nd1 (show i<(l++[(f.points[i]!).1]).length by omega) (by omega),sc]
  have s2:fR (hS f.points t i l)=some (.next (hS f.points t (i+1) (xV f.points t i (l++[(f.points[i]!).1])))):=by
   unfold fR hS;simp only [aH,aS (show (i:Int)<(f.points.length:Int) by omega),cond_true,cl,g,aE,ap,teta,ZA fok rt r64 hp1 nd1 (show i<(l++[(f.points[i]!).1]).length by omega) (by omega),sc]
  rw [bE s1,bE s2];exact ih (i+1) _ (by omega) (by omega) (pm1.trans (SC f.points t i _ (by omega)).symm)
theorem SD (f:Field) {t:Int×Int} (r64:pC t): ∃(r:dY) (e:Int),mN f t=some (r,e)/\mR f t=some (r,e)/\D7 r.clock/\r.heap.length<=1000:=by
 have cn:=M1 f r64
 by_cases h:hY f.points=0
 case neg=>
  rw [if_pos h] at cn;refine ⟨⟨pW,[]⟩,hY f.points,?_,?_,BS,Nat.zero_le _⟩
  · unfold mN
    rw [cn,aE,dM h,cond_true]
  · unfold mR
    rw [nZ,aE,dM h,cond_true,aE]
 rw [if_neg (show¬hY f.points≠0 from fun k=>k h)] at cn
 have fok:=mT.1 h
 by_cases rt:bX t
 case neg=>
  rw [if_neg rt] at cn;refine ⟨⟨pW,[]⟩,8,?_,?_,BS,Nat.zero_le _⟩
  · unfold mN
    rw [cn,aE,dM (by decide),cond_true]
  · unfold mR
    rw [nZ,aE,cB h,cond_false,nY r64,if_neg rt,aE,dM (by decide),cond_true]
 rw [if_pos rt] at cn;obtain ⟨r,r1,r2,r3,r4⟩:=ZB fok rt r64 f.points.length 0 [] (by omega) (by omega) (List.Perm.refl _)
 refine ⟨r,0,?_,?_,r3,r4⟩
 · unfold mN
   rw [cn,aE,cB rfl,cond_false];exact r1
 · unfold mR wR
   rw [nZ,aE,cB h,cond_false,nY r64,if_pos rt,aE,cB rfl,cond_false];show (aK fR (hS f.points t 0 [])).bind _=_;rw [r2,aE]
theorem xG (f:Field) (t:Int×Int) (k:dY) (r64:pC t) (n:aFT k.clock):nV f t k=some true:=by
 unfold nV;rcases F2 f with e|⟨e,_⟩
 · rw [e];rfl
 rw [e,aE,cond_false];rcases R6 k with e|⟨e,sh,hl⟩
 · rw [e];rfl
 rw [e,aE,cond_false];obtain ⟨r,er,b1,b2,b3,b4⟩:=SD f r64;have fit:sT k.clock:=⟨n.now,⟨sh.s3,sh.h,sh.w,n.at64⟩,sh.d⟩;have c1:=JL fit (by omega)
 have c2:=JM fit (by omega)
 have main: ∃(a:List (Int×Int)×Int) (b:Int×Int) (c:(Int×Int×Int×Int×Int)×Int) (m:Int),qR k=some a/\qT k=some a/\nT k=some b/\nU k=some b/\sN k=some c/\sO k=some c/\
  jF k=some m/\fE k=some m/\a.1.length<=1000:=by
  by_cases ok:JK k
  case neg=>
   rw [if_neg ok] at c1 c2;refine ⟨([],8),(0,8),((0,0,0,0,0),8),8,?_,?_,?_,?_,?_,?_,c1,c2,Nat.zero_le _⟩
   · unfold qR;rw [c1];rfl
   · unfold qT;rw [c2];rfl
   · unfold nT;rw [c1];rfl
   · unfold nU;rw [c2];rfl
   · unfold sN;rw [c1];rfl
   · unfold sO;rw [c2];rfl
  rw [if_pos ok] at c1 c2;have cc:=sU fit;rw [if_pos ok.clk] at cc;refine ⟨(cX k.heap,0),if k.heap.length=0 then (0,42) else (k.heap[0]!,0),if k.clock.agenda.heap.length=0 then ((0,0,0,0,0),42) else (k.clock.agenda.heap[0]!,0),0,?_,?_,?_,?_,?_,?_,c1,c2,by show (cX k.heap).length<=1000;rw [kQ];omega⟩
  · unfold qR
    rw [c1,aE,cB rfl,cond_false,D8 _ (by omega),aE]
  · unfold qT
    rw [c2,aE,cB rfl,cond_false,Y4 _ (by omega),aE]
  · unfold nT
    rw [c1,aE,cB rfl,cond_false,aH]
    by_cases h:k.heap.length=0
    · rw [gL (by omega),if_pos h,cond_true]
    · have g:=aD k.heap 0 (by omega)
      rw [show ((0:Nat):Int)=0 from rfl] at g;rw [fM (by omega),if_neg h,cond_false,g,aE]
  · unfold nU
    rw [c2,aE,cB rfl,cond_false,aH]
    by_cases h:k.heap.length=0
    · rw [gL (by omega),if_pos h,cond_true]
    · have g:=aD k.heap 0 (by omega)
      rw [show ((0:Nat):Int)=0 from rfl] at g;rw [fM (by omega),if_neg h,cond_false,g,aE]
  · unfold sN CK CJ
    rw [c1,aE,cB rfl,cond_false,cc,aE,cB rfl,cond_false,lW _ fit.ag,if_pos ok.clk.agd,aE,cB rfl,cond_false,aH]
    by_cases h:k.clock.agenda.heap.length=0
    · rw [gL (by omega),if_pos h,cond_true,aE,aE]
    · have g:=aD k.clock.agenda.heap 0 (by omega)
      rw [show ((0:Nat):Int)=0 from rfl] at g;rw [fM (by omega),if_neg h,cond_false,g,aE,aE,aE]
  · unfold sO
    rw [c2,aE,cB rfl,cond_false,aH]
    by_cases h:k.clock.agenda.heap.length=0
    · rw [gL (by omega),if_pos h,cond_true]
    · have g:=aD k.clock.agenda.heap 0 (by omega)
      rw [show ((0:Nat):Int)=0 from rfl] at g;rw [fM (by omega),if_neg h,cond_false,g,aE]
 obtain ⟨a,b,c,m,m1,m2,m3,m4,m5,m6,m7,m8,m9⟩:=main;simp only [b1,b2,aE,m1,m2,m3,m4,m5,m6,VP b3 (show r.heap.length<=1000000 by omega),cond_true,m7,m8,beq_self_eq_true,R5 a.1 (by omega),Bool.and_self]
end Go.Proofs.YtmlghnibpjlchaaGreat
