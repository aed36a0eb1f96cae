/- Plain laws (4). -/
import Derived.Test.YtbgoiokedpjgbaaGreatBQM3
import Derived.Test.YtbgoiokedpjgbaaGreatBQS2
open Classical renaming not_not->ut,not_forall->M2,not_imp->acl
open List renaming length_replicate->v6,length_take->AC,length_cons->Do,getElem!_eq_getElem?_getD->EQ,length_nil->If,length_drop->NE,length_append->PP,length_set->adc,length_eraseIdx_le->ae9,drop_length->af2,getElem_replicate->af5,mem_append->af6,take_append_drop->af7,mem_of_mem_take->afa,mem_of_mem_drop->afb,mem_cons->aff,append_assoc->afg,getElem?_set->afh,take_length->afi,length_map->afj,append_nil->afk,length->afE
open Nat renaming lt_trichotomy->ww,zero_le->F0s,lt_or_ge->af4,le_refl->afc,le_trans->afm,sub_self->afo
open Bool renaming not_true->IR,not_false->UV,true->afI,false->afK
open Option renaming some->afF
open Decidable renaming decide->afQ
namespace Go.Proofs.YtbgoiokedpjgbaaGreat
open Go.Vm Classical
theorem Ng (l:List Int) (hl:(afE l)<=1000000):jk l l=afF afI:=by
 unfold jk;rw [bn rfl,ol]
 have:=bF (body:=mn) (fun i=>(l,l,(i:Int))) (afE l) (fun i hi=>by
  unfold mn;simp only [ay,aD (show (i:Int)<((afE l):Int) by omega),lw,ar l i hi,aj,bn rfl,ol,aR (show i<1000000000 by omega)])
 rw [show (l,l,(0:Int))=(l,l,((0:Nat):Int)) from rfl,this];refine aH ?_;unfold mn;simp only [ay,aC (show¬((afE l):Int)<((afE l):Int) by omega),ol]
theorem Kk (p q:Pt) (t:Int×Int):Io p q t=(p.2.1*t.2+p.2.2*t.1) - (q.2.1*t.2+q.2.2*t.1):=by
 rw [aeM,Int.sub_mul,Int.sub_mul];omega
theorem Nh {p q r:Pt} {t:Int×Int} (h1:leads p q t) (h2:leads q r t):leads p r t:=by
 unfold leads at*;rw [Kk] at*;generalize p.2.1*t.2+p.2.2*t.1=a at*;generalize q.2.1*t.2+q.2.2*t.1=b at*;generalize r.2.1*t.2+r.2.2*t.1=c at*;omega
theorem yG {p q:Pt} (t:Int×Int) (h:p.1≠q.1) (hn: ¬leads p q t):leads q p t:=by
 unfold leads at*;rw [Kk] at*;generalize p.2.1*t.2+p.2.2*t.1=a at*;generalize q.2.1*t.2+q.2.2*t.1=b at*;omega
structure SO (P:Int->Int->Prop) (S:Int->Prop):Prop where
 irr: ∀a,S a-> ¬P a a
 tr: ∀a b c,S a->S b->S c->P a b->P b c->P a c
 tot: ∀a b,S a->S b->a≠b->P a b\/P b a
abbrev par (j:Nat):Nat:=(j-1) / 2
def Hp (P:Int->Int->Prop) (l:List Int):Prop:= ∀j,0<j->j<afE l-> ¬P l[j]! l[par j]!
section
variable {P : Int -> Int -> Prop} {S : Int -> Prop}
theorem SO.up (o:SO P S) {a b c:Int} (ha:S a) (hb:S b) (hc:S c) (h1:P b c) (h2: ¬P a c): ¬P a b:=fun h=>h2 (o.tr a b c ha hb hc h h1)
end
section
variable {P : Int -> Int -> Prop} {S : Int -> Prop} {bit : Int -> Nat -> Nat}
end
theorem Wt {f:List Pt} (cS:bw f) (k:Nat):bw (f.eraseIdx k):=by
 refine ⟨afm (ae9 f k) cS.1,fun p hp=>cS.2.1 p (List.mem_of_mem_eraseIdx hp),?_⟩
 have h:=cS.2.2;intro i hi;have hl:=ae9 f k
 by_cases hk:k<afE f
 · have:=B7 hk
   rw [wS,wS];split<;>split<;>exact dH h (by omega) (by omega)
 rw [List.eraseIdx_of_length_le (by omega)] at hi ⊢
 exact h i hi
theorem DU {f:List Pt} (cS:bw f) {k:Nat} (hk:k<afE f):ja ⟨f⟩ (f[k]!).1=afF ((k:Int),0):=by
 have h1:=cS.1;have hc:dm ⟨f⟩=afF 0:=by rw [fQ];exact congrArg afF (dP.2 cS)
 have bs:=qi f (f[k]!).1 (by omega) (fun i j=>dH cS.2.2)
 unfold ja jh;rw [B5];simp only [hc,aj,show ((0:Int) !=0)=afK from rfl,ol,bs.1 k hk rfl,IR]
theorem Af {f:List Pt} (cS:bw f) {id:Int} (h: ¬fh f id):ja ⟨f⟩ id=afF (0,6):=by
 have h1:=cS.1;have hc:dm ⟨f⟩=afF 0:=by rw [fQ];exact congrArg afF (dP.2 cS)
 have bs:=qi f id (by omega) (fun i j=>dH cS.2.2)
 obtain ⟨m,_,_,_,e⟩:=bs.2 (fun k hk he=>h ⟨k,hk,he⟩)
 unfold ja jh;rw [B5];simp only [hc,aj,show ((0:Int) !=0)=afK from rfl,ol,e,UV,lw]
theorem Kl:ji=dY:=rfl
theorem Ps {f:List Pt} (cS:bw f) {k:Nat} (hk:k<afE f):jj ⟨f⟩ (f[k]!).1=afF (⟨f.eraseIdx k⟩,0)/\wL ⟨f⟩ (f[k]!).1=afF (⟨f.eraseIdx k⟩,0):=by
 have f1:=cS.1;constructor
 · obtain ⟨L,d1,d2⟩:=yx f k hk
   unfold jj;rw [DU cS hk,aj,bn rfl,ol,aZ (show (afE f)<=1048576 by omega),aj,aR (show k<1000000000 by omega),Kl,d1,aj]
   show afF (Field.mk (L.take (afE f-1)),(0:Int))=_;rw [d2]
 have hc:eJ ⟨f⟩=afF 0:=by rw [jS];exact congrArg afF (dP.2 cS)
 unfold wL;rw [hc,aj,bn rfl,ol,vz cS.2.2 (by omega) hk rfl,aj,aC (by omega),ol]
 unfold zZ;generalize hn:(f[k]!).1=n;have key:=bF (body:=ib) (fun i=>(n,(i:Int),f,(f.take i).filter (fun x=>x.1 !=n))) (afE f) (fun i hi=>by
  have nx:(f.take (i+1)).filter (fun x=>x.1 !=n)=(f.take i).filter (fun x=>x.1 !=n)++(if (f[i]!).1 !=n then [f[i]!] else []):=by
   rw [ek hi,List.filter_append,List.filter_cons,List.filter_nil]
  have fl:((f.take i).filter (fun x=>x.1 !=n)).length<=200:=afm (List.length_filter_le _ _) (by rw [AC];omega)
  unfold ib;simp only [ay,aD (show (i:Int)<((afE f):Int) by omega),lw,ar f i hi,aj,aR (show i<1000000000 by omega),nx]
  by_cases h:(f[i]!).1=n
  · rw [bn h];simp
  rw [cK h]
  simp only [lw,if_true,bT (show ((f.take i).filter (fun x=>x.1 !=n)).length+[f[i]!].length<=1048576 by simp only [Do,If];omega),aj])
 have fin:az ib (n,((afE f):Int),f,(f.take (afE f)).filter (fun x=>x.1 !=n))=afF ⟨f.eraseIdx k⟩:=aH (by
  unfold ib;simp only [ay,aC (show¬((afE f):Int)<((afE f):Int) by omega),ol,afi]
  rw [B8 hk (fun i j=>dH cS.2.2) hn])
 rw [show az ib (n,0,f,[])=_ from key,fin,aj]
theorem Km {f:List Pt} (cS:bw f) {id:Int} (h: ¬fh f id):jj ⟨f⟩ id=afF (⟨[]⟩,6)/\wL ⟨f⟩ id=afF (⟨[]⟩,6):=by
 constructor
 · unfold jj
   rw [Af cS h];rfl
 have hc:eJ ⟨f⟩=afF 0:=by rw [jS];exact congrArg afF (dP.2 cS)
 unfold wL;rw [hc,aj,bn rfl,ol,yB cS h];rfl
def oQ (f:List Pt) (m:Nat) (p:Pt):List Pt:=f.take m++p::f.drop m
structure IE (f:List Pt) (p:Pt) (m:Nat):Prop where
 le:m<=afE f
 lo: ∀i,i<m->(f[i]!).1<p.1
 hi: ∀i,m<=i->i<afE f->p.1<(f[i]!).1
theorem Ce {f:List Pt} {m:Nat} (h:m<=afE f) (p:Pt):(oQ f m p).length=afE f+1:=by
 unfold oQ;rw [PP,Do,AC,NE];omega
theorem zy {f:List Pt} {m:Nat} (h:m<=afE f) (p:Pt) (i:Nat):(oQ f m p)[i]! =if i<m then f[i]! else if i=m then p else f[i-1]!:=by
 have ht:(f.take m).length=m:=by rw [AC];omega
 unfold oQ;simp only [EQ]
 by_cases h1:i<m
 · rw [pp h1,List.getElem?_append_left (by omega),List.getElem?_take_of_lt h1]
 rw [rc h1,List.getElem?_append_right (by omega),ht]
 by_cases h2:i=m
 · rw [pp h2,h2,afo];rfl
 rw [rc h2,show i-m=(i-1-m)+1 by omega,List.getElem?_cons_succ,List.getElem?_drop,show m+(i-1-m)=i-1 by omega]
theorem aeP {f:List Pt} (cS:bw f) {p:Pt} (po:fw p) {m:Nat} (h:IE f p m) (hl:(afE f)<64):bw (oQ f m p):=by
 refine ⟨by rw [Ce h.le];omega,fun q hq=>?_,fun i hi=>?_⟩
 · rcases af6.1 hq with hq|hq
   · exact cS.2.1 q (afa hq)
   rcases aff.1 hq with rfl|hq
   · exact po
   exact cS.2.1 q (afb hq)
 rw [Ce h.le] at hi
 rw [zy h.le,zy h.le];rcases ww (i+1) m with c|c|c
 · rw [pp (by omega),pp c];exact dH cS.2.2 (by omega) (by have:=h.le;omega)
 · rw [pp (by omega),rc (by omega),pp c];exact h.lo i (by omega)
 rw [rc (show¬i+1<m by omega),rc (show¬i+1=m by omega),Nat.add_sub_cancel]
 by_cases d:i=m
 · rw [rc (by omega),pp d];exact h.hi i (by omega) (by omega)
 rw [rc (by omega),rc d];exact dH cS.2.2 (by omega) (by omega)
theorem Pu {f:List Pt} (cS:bw f) {p:Pt} (h: ¬fh f p.1): ∃m,IE f p m/\jh ⟨f⟩ p.1=afF ((m:Int),afK):=by
 have h1:=cS.1;obtain ⟨m,a,b,c,e⟩:=(qi f p.1 (by omega) (fun i j=>dH cS.2.2)).2 (fun k hk he=>h ⟨k,hk,he⟩)
 refine ⟨m,⟨a,b,c⟩,?_⟩;unfold jh;rw [B5,e];rfl
theorem Pv {f:List Pt} (cS:bw f) {id:Int} (h:fh f id): ∃k,k<afE f/\(f[k]!).1=id/\jh ⟨f⟩ id=afF ((k:Int),afI):=by
 have h1:=cS.1;obtain ⟨k,hk,he⟩:=h;refine ⟨k,hk,he,?_⟩;unfold jh;rw [B5,(qi f id (by omega) (fun i j=>dH cS.2.2)).1 k hk he];rfl
theorem aeQ {f:List Pt} (_:bw f) {p:Pt} {m:Nat} (h:IE f p m) (hl:(afE f)<64):az ff (afK,0,f,p.1,p.2.1,p.2.2,[])=afF (⟨oQ f m p⟩,0):=by
 have ly:=h.le;have tl: ∀i,(f.take i).length<=64:=fun i=>by rw [AC];omega
 have k1:=bF (body:=ff) (fun i=>(afK,(i:Int),f,p.1,p.2.1,p.2.2,f.take i)) m (fun i hi=>by
  unfold ff;simp only [ay,aD (show (i:Int)<((afE f):Int) by omega),lw,UV,ar f i (by omega),aj,aC (show¬p.1<(f[i]!).1 from Int.not_lt.2 (Int.le_of_lt (h.lo i hi))),ol,
   bT (show (f.take i).length+[f[i]!].length<=1048576 by have:=tl i;simp only [Do,If];omega),aR (show i<1000000000 by omega),ek (show i<(afE f) by omega)])
 refine (show az ff (afK,0,f,p.1,p.2.1,p.2.2,[])=_ from k1).trans ?_;have pe:((p.1,p.2.1,p.2.2):Pt)=p:=rfl;rcases af4 m (afE f) with hm|hm
 · have s1:ff (afK,(m:Int),f,p.1,p.2.1,p.2.2,f.take m)=afF (.next (afI,((m+1:Nat):Int),f,p.1,p.2.1,p.2.2,f.take m++[p]++[f[m]!])):=by
    unfold ff;simp only [ay,aD (show (m:Int)<((afE f):Int) by omega),lw,UV,ar f m hm,aj,aD (h.hi m (afc _) hm),pe,
     bT (show (f.take m).length+[p].length<=1048576 by have:=tl m;simp only [Do,If];omega),
     bT (show (f.take m++[p]).length+[f[m]!].length<=1048576 by have:=tl m;simp only [PP,Do,If];omega),aR (show m<1000000000 by omega)]
   rw [ba s1];have k2:=bF (body:=ff) (fun i=>(afI,((m+1+i:Nat):Int),f,p.1,p.2.1,p.2.2,f.take m++[p]++(f.drop m).take (i+1))) (afE f- (m+1)) (fun i hi=>by
    have ed:(f.drop m).take (i+1+1)=(f.drop m).take (i+1)++[f[m+1+i]!]:=by
     rw [ek (show i+1<(f.drop m).length by rw [NE];omega),kX];congr 3;omega
    unfold ff;simp only [ay,aD (show ((m+1+i:Nat):Int)<((afE f):Int) by omega),lw,IR,ol,ar f (m+1+i) (by omega),aj,
     bT (show (f.take m++[p]++(f.drop m).take (i+1)).length+[f[m+1+i]!].length<=1048576 by have:=tl m;simp only [PP,AC,NE,Do,If] at this ⊢;omega),aR (show m+1+i<1000000000 by omega),ed]
    rw [afg (f.take m++[p]),show m+1+i+1=m+1+(i+1) by omega])
   have e0:(f.drop m).take (0+1)=[f[m]!]:=by
    have:=MC hm
    rw [show f.drop m=f[m]!::f.drop (m+1) by rw [getElem!_pos f m hm,List.getElem_cons_drop]];rfl
   rw [e0] at k2;refine (show az ff (afI,((m+1:Nat):Int),f,p.1,p.2.1,p.2.2,f.take m++[p]++[f[m]!])=_ from k2).trans (aH ?_);have ef:(f.drop m).take (afE f- (m+1)+1)=f.drop m:=List.take_of_length_le (by rw [NE];omega)
   rw [ef,show m+1+(afE f- (m+1))=(afE f) by omega]
   unfold ff oQ;simp only [ay,aC (show¬((afE f):Int)<((afE f):Int) by omega),ol,IR,afg,List.singleton_append]
 obtain rfl:m=(afE f):=by omega
 refine aH ?_;unfold ff oQ;simp only [ay,aC (show¬((afE f):Int)<((afE f):Int) by omega),ol,UV,lw,pe,afi,
  bT (show (afE f)+[p].length<=1048576 by simp only [Do,If];omega),aj,af2]
theorem GO {f:List Pt} (cS:bw f) (p:Pt):
 (∃e:Int,e≠0/\iM ⟨f⟩ p=afF (⟨[]⟩,e)/\si ⟨f⟩ p=afF (⟨[]⟩,e))\/
 (∃m,IE f p m/\ ¬fh f p.1/\fw p/\afE f<64/\iM ⟨f⟩ p=afF (⟨oQ f m p⟩,0)/\si ⟨f⟩ p=afF (⟨oQ f m p⟩,0)):=by
 have f1:=cS.1;have hc:dm ⟨f⟩=afF 0:=by rw [fQ];exact congrArg afF (dP.2 cS)
 have CA:eJ ⟨f⟩=afF 0:=by rw [jS];exact congrArg afF (dP.2 cS)
 by_cases po:fw p
 case neg=>
  refine .inl ⟨8,by decide,?_,?_⟩
  · unfold iM;rw [hc,aj,bn rfl,ol,fg,rc po];rfl
  unfold si;rw [CA,aj,bn rfl,ol,fP,rc po];rfl
 by_cases hp:fh f p.1
 · obtain ⟨k,hk,he,e⟩:=Pv cS hp
   refine .inl ⟨14,by decide,?_,?_⟩
   · unfold iM;rw [hc,aj,bn rfl,ol,fg,pp po,aj,bn rfl,ol,e];rfl
   unfold si;rw [CA,aj,bn rfl,ol,fP,pp po,aj,bn rfl,ol,vz cS.2.2 (by omega) hk he,aj,aD (show (0:Int)<=(k:Int) by omega)];rfl
 obtain ⟨m,hm,e⟩:=Pu cS hp
 by_cases full:(afE f)=64
 · refine .inl ⟨18,by decide,?_,?_⟩
   · unfold iM;rw [hc,aj,bn rfl,ol,fg,pp po,aj,bn rfl,ol,e,aj,ol]
     simp only [ay,full];rfl
   unfold si;rw [CA,aj,bn rfl,ol,fP,pp po,aj,bn rfl,ol,yB cS hp,aj,aC (by decide),ol]
   simp only [ay,full];rfl
 have hl:(afE f)<64:=by omega
 have hf:(Int.ofNat (afE f)==64)=afK:=by simp only [ay,beq_eq_false_iff_ne];omega
 refine .inr ⟨m,hm,hp,po,hl,?_,?_⟩
 · have hi:yZ f (m:Int) [p]=afF (oQ f m p):=by
    unfold yZ;rw [pp ⟨by omega,by have:=hm.le;simpa using this,rfl,by omega⟩]
    simp [oQ]
   unfold iM;rw [hc,aj,bn rfl,ol,fg,pp po,aj,bn rfl,ol,e,aj,ol,hf,ol,aZ (show (afE f)<=1048576 by omega),aj,hi,aj]
 unfold si
 rw [CA,aj,bn rfl,ol,fP,pp po,aj,bn rfl,ol,yB cS hp,aj,aC (by decide),ol,hf,ol]
 exact aeQ cS hm hl
theorem am7 {f:List Pt} (cS:bw f) {p:Pt} (po:fw p) {k:Nat} (hk:k<afE f) (he:(f[k]!).1=p.1):bw (f.set k p):=by
 refine ⟨by rw [adc];exact cS.1,fun q hq=>?_,fun i hi=>?_⟩
 · rcases List.mem_or_eq_of_mem_set hq with h|rfl
   · exact cS.2.1 q h
   exact po
 rw [adc] at hi
 have h:=dH cS.2.2 (show i<i+1 by omega) hi
 have g: ∀j:Nat,((f.set k p)[j]!).1=(f[j]!).1:=fun j=>by
  simp only [EQ,afh]
  by_cases c:k=j
  · subst c
    rw [pp rfl,pp hk];simp only [EQ] at he;exact he.symm
  rw [rc c]
 rw [g,g];exact h
theorem tY {f:List Pt} (cS:bw f) (p:Pt):
 (∃e:Int,e≠0/\fa ⟨f⟩ p=afF (⟨[]⟩,e)/\mq ⟨f⟩ p=afF (⟨[]⟩,e))\/
 (∃k,k<afE f/\(f[k]!).1=p.1/\fw p/\fa ⟨f⟩ p=afF (⟨f.set k p⟩,0)/\mq ⟨f⟩ p=afF (⟨f.set k p⟩,0)):=by
 have f1:=cS.1;have hc:dm ⟨f⟩=afF 0:=by rw [fQ];exact congrArg afF (dP.2 cS)
 have CA:eJ ⟨f⟩=afF 0:=by rw [jS];exact congrArg afF (dP.2 cS)
 by_cases po:fw p
 case neg=>
  refine .inl ⟨8,by decide,?_,?_⟩
  · unfold fa;rw [hc,aj,bn rfl,ol,fg,rc po];rfl
  unfold mq;rw [CA,aj,bn rfl,ol,fP,rc po];rfl
 by_cases hp:fh f p.1
 case neg=>
  refine .inl ⟨6,by decide,?_,?_⟩
  · unfold fa;rw [hc,aj,bn rfl,ol,fg,pp po,aj,bn rfl,ol,Af cS hp];rfl
  unfold mq;rw [CA,aj,bn rfl,ol,fP,pp po,aj,bn rfl,ol,yB cS hp];rfl
 obtain ⟨k,hk,he⟩:=hp;have pl:=DU cS hk;rw [he] at pl;refine .inr ⟨k,hk,he,po,?_,?_⟩
 · unfold fa
   rw [hc,aj,bn rfl,ol,fg,pp po,aj,bn rfl,ol,pl,aj,bn rfl,ol,aZ (show (afE f)<=1048576 by omega),aj,ar f k hk,aj,kM]
 unfold mq je
 rw [CA,aj,bn rfl,ol,fP,pp po,aj,bn rfl,ol,vz cS.2.2 (by omega) hk he,aj,aC (by omega),ol,aZ (show (afE f)<=1048576 by omega),aj,aj,ar f k hk,aj,kM]
noncomputable def kE (f:List Pt) (es:List (Int×Int)):Int:=if¬(∀x∈es,fx x) then 8 else if¬es.Nodup then 14 else if¬(∀x∈es,jm f x) then 6 else 0
def rP (c:aP) (f:List Pt) (es:List (Int×Int)) (i:Nat):=
 (es,es,((afE es):Int),(i:Int),c.ci.1,c.ci.2,c.ii.am,c.ai.aM,c.ai.ce,c.ae.af.aA,c.ae.af.be,c.ae.af.bi,c.ae.bv,c.ae.aq,c.io,f,(0:Int),(0:Int),(0:Int))
theorem yH {c:aP} (ok:bk c) {f:List Pt} (cS:bw f) {es:List (Int×Int)} (hl:(afE es)<=1000) {r:aP×Int} (hr:kE f es=0->lQ c ⟨f⟩ es=afF r):
 lR c ⟨f⟩ es=afF (if kE f es=0 then r else (eM,kE f es)):=by
 have bd:=ok.bd;have ab:=ok.ng.bd;have sl:=ok.ng.so.fl;have sn:=ok.ng.so.n2;have su:=ok.ng.so.ul;have el:afQ (((afE es):Int)<((afE es):Int))=afK:=aC (by omega)
 have hc:gq c=afF 0:=by rw [lW ok.fit,pp ok]
 have hf:dm ⟨f⟩=afF 0:=by rw [fQ];exact congrArg afF (dP.2 cS)
 have tw:sO (aP.mk (c.ci.1,c.ci.2) (Field.mk c.ii.am) (bC.mk c.ai.aM c.ai.ce) (aK.mk (bc.mk c.ae.af.aA c.ae.af.be c.ae.af.bi) c.ae.bv c.ae.aq) c.io)=afF c:=by
  unfold sO;simp only [aZ (show (afE c.ii.am)<=1048576 by omega),aZ (show (afE c.ai.ce)<=1048576 by omega),aZ (show (afE c.io)<=1048576 by omega),aZ (show (afE c.ae.bv)<=1048576 by omega),aZ (show (afE c.ae.aq)<=1048576 by omega),
   aZ (show (afE c.ae.af.aA)<=1048576 by omega),aZ (show (afE c.ae.af.be)<=1048576 by omega),aZ (show (afE c.ae.af.bi)<=1048576 by omega),aj]
 have k3: ∀e2:aP×Int,az eg (rP c f es 0)=afF (.done e2)->az eh (rP c f es 0)=afF (if∀i,i<afE es->fx es[i]! then e2 else (eM,8)):=by
  intro e2 h2;refine lX (body:=eh) (fun i=>rP c f es i) (afE es) (fun i=>fx es[i]!) (r:=(eM,8)) (e:=e2) (fun i hi=>?_) ?_
  · have e1:afQ ((i:Int)<((afE es):Int))=afI:=aD (by omega)
    unfold eh rP fx;simp only [e1,lw,ar es i hi,aj,aR (show i<1000000000 by omega)]
    generalize es[i]! =x
    by_cases a1:x.1<0
    · rw [aD a1];exact ⟨fun _=>rfl,fun h=>by omega⟩
    rw [aC a1]
    by_cases a2:x.2<0
    · rw [aD a2];exact ⟨fun _=>rfl,fun h=>by omega⟩
    rw [aC a2]
    by_cases a3:65535<x.1
    · rw [aD a3];exact ⟨fun _=>rfl,fun h=>by omega⟩
    rw [aC a3]
    by_cases a4:65535<x.2
    · rw [aD a4];exact ⟨fun _=>rfl,fun h=>by omega⟩
    rw [aC a4]
    by_cases a5:x.1=x.2
    · rw [ei a5];exact ⟨fun _=>rfl,fun h=>absurd a5 h.2.2.2.2⟩
    rw [dO a5];exact ⟨fun h=>absurd ⟨by omega,by omega,by omega,by omega,a5⟩ h,fun _=>rfl⟩
  unfold eh rP
  simp only [ay,el,ol];exact h2
 have k2: ∀e1:aP×Int,az eU (rP c f es 0)=afF (.done (.done e1))->az eg (rP c f es 0)=afF (.done (if∀i,i<afE es->es[i]!∉es.take i then e1 else (eM,14))):=by
  intro e0 h2
  have:=lX (body:=eg) (fun i=>rP c f es i) (afE es) (fun i=>es[i]!∉es.take i) (r:= .done (eM,14)) (e:= .done e0) (fun i hi=>by
   have e1:afQ ((i:Int)<((afE es):Int))=afI:=aD (by omega)
   unfold eg rP;simp only [e1,lw,ar es i hi,jT es i (by omega),aj,kZ _ _ (show (es.take i).length<=1000000 by rw [AC];omega),aR (show i<1000000000 by omega)]
   by_cases h:es[i]!∈es.take i
   · rw [aD h];exact ⟨fun _=>rfl,fun k=>absurd h k⟩
   · rw [aC h];exact ⟨fun k=>absurd h k,fun _=>rfl⟩) (by
   unfold eg rP;simp only [ay,el,ol];exact h2)
  refine this.trans ?_
  by_cases hb: ∀i,i<afE es->es[i]!∉es.take i
  · rw [pp hb,pp hb]
  rw [rc hb,rc hb]
 have Wu: ∀i,i<afE es->(¬jm f es[i]!->eU (rP c f es i)=afF (.done (.done (.done (eM,6)))))/\(jm f es[i]!->eU (rP c f es i)=afF (.next (rP c f es (i+1)))):=by
  intro i hi;have e1:afQ ((i:Int)<((afE es):Int))=afI:=aD (by omega)
  obtain ⟨p,e,a1,a2⟩:=Ae cS (es[i]!).1;obtain ⟨q,g,b1,b2⟩:=Ae cS (es[i]!).2;unfold eU rP jm;simp only [e1,lw,ar es i hi,aj,a1,b1,aR (show i<1000000000 by omega)]
  by_cases h1:fh f (es[i]!).1
  · rw [bn (a2.2 h1)]
    by_cases h2:fh f (es[i]!).2
    · rw [bn (b2.2 h2)]
      exact ⟨fun h=>absurd ⟨h1,h2⟩ h,fun _=>rfl⟩
    rw [cK (fun h=>h2 (b2.1 h))]
    exact ⟨fun _=>rfl,fun h=>absurd h.2 h2⟩
  rw [cK (fun h=>h1 (a2.1 h))]
  exact ⟨fun _=>rfl,fun h=>absurd h.1 h1⟩
 have start:lR c ⟨f⟩ es=az eh (rP c f es 0):=by
  unfold lR;simp only [hc,aj,show ((0:Int) !=0)=afK from rfl,ol,hf];rfl
 rw [start]
 by_cases h1: ∀x∈es,fx x
 case neg=>
  have er:kE f es=8:=by unfold kE;rw [pp h1]
  rw [er,rc (by omega)]
  have:=dh (body:=eh) (fun i=>rP c f es i) (afE es) (fun i=> ¬fx es[i]!) (r:=(eM,8)) (e:=r)
  have k3':=k3;rw [yD (P:=fx)] at h1;obtain ⟨i,h⟩:=M2.1 h1;obtain ⟨hi,hx⟩:=acl.1 h;obtain ⟨m,m1,m2,m3⟩:=least (c:=fun i=> ¬fx es[i]!) ⟨i,hi,hx⟩
  have go: ∀j,j<afE es->(¬fx es[j]!->eh (rP c f es j)=afF (.done (eM,8)))/\(fx es[j]!->eh (rP c f es j)=afF (.next (rP c f es (j+1)))):=by
   intro j hj;have e1:afQ ((j:Int)<((afE es):Int))=afI:=aD (by omega)
   unfold eh rP fx;simp only [e1,lw,ar es j hj,aj,aR (show j<1000000000 by omega)]
   generalize es[j]! =x
   by_cases a1:x.1<0
   · rw [aD a1];exact ⟨fun _=>rfl,fun h=>by omega⟩
   rw [aC a1]
   by_cases a2:x.2<0
   · rw [aD a2];exact ⟨fun _=>rfl,fun h=>by omega⟩
   rw [aC a2]
   by_cases a3:65535<x.1
   · rw [aD a3];exact ⟨fun _=>rfl,fun h=>by omega⟩
   rw [aC a3]
   by_cases a4:65535<x.2
   · rw [aD a4];exact ⟨fun _=>rfl,fun h=>by omega⟩
   rw [aC a4]
   by_cases a5:x.1=x.2
   · rw [ei a5];exact ⟨fun _=>rfl,fun h=>absurd a5 h.2.2.2.2⟩
   rw [dO a5];exact ⟨fun h=>absurd ⟨by omega,by omega,by omega,by omega,a5⟩ h,fun _=>rfl⟩
  rw [bF (body:=eh) (fun i=>rP c f es i) m fun j hj=>(go j (by omega)).2 (ut.1 (m3 j hj))]
  exact aH ((go m m1).1 m2)
 have NC:=(yD (P:=fx)).1 h1
 by_cases h2:es.Nodup
 case neg=>
  have er:kE f es=14:=by unfold kE;rw [rc (ut.2 h1),pp h2]
  rw [er,rc (by omega)]
  have Sb:=h2;rw [GJ] at Sb;obtain ⟨i,h⟩:=M2.1 Sb;obtain ⟨hi,hx⟩:=acl.1 h;obtain ⟨m,m1,m2,m3⟩:=least (c:=fun i=> ¬es[i]!∉es.take i) ⟨i,hi,hx⟩
  have go: ∀j,j<afE es->(es[j]!∈es.take j->eg (rP c f es j)=afF (.done (.done (eM,14))))/\(es[j]!∉es.take j->eg (rP c f es j)=afF (.next (rP c f es (j+1)))):=by
   intro j hj;have e1:afQ ((j:Int)<((afE es):Int))=afI:=aD (by omega)
   unfold eg rP;simp only [e1,lw,ar es j hj,jT es j (by omega),aj,kZ _ _ (show (es.take j).length<=1000000 by rw [AC];omega),aR (show j<1000000000 by omega)]
   by_cases h:es[j]!∈es.take j
   · rw [aD h];exact ⟨fun _=>rfl,fun k=>absurd h k⟩
   rw [aC h];exact ⟨fun k=>absurd k h,fun _=>rfl⟩
  have l2:az eg (rP c f es 0)=afF (.done (eM,14)):=by
   rw [bF (body:=eg) (fun i=>rP c f es i) m fun j hj=>(go j (by omega)).2 (ut.1 (m3 j hj))]
   exact aH ((go m m1).1 (ut.1 m2))
  rw [k3 _ l2,pp NC]
 have Sb:=GJ.1 h2
 by_cases h3: ∀x∈es,jm f x
 case neg=>
  have er:kE f es=6:=by unfold kE;rw [rc (ut.2 h1),rc (ut.2 h2),pp h3]
  rw [er,rc (by omega)]
  have h3':=h3;rw [yD (P:=jm f)] at h3';obtain ⟨i,h⟩:=M2.1 h3';obtain ⟨hi,hx⟩:=acl.1 h;obtain ⟨m,m1,m2,m3⟩:=least (c:=fun i=> ¬jm f es[i]!) ⟨i,hi,hx⟩
  have l1:az eU (rP c f es 0)=afF (.done (.done (eM,6))):=by
   rw [bF (body:=eU) (fun i=>rP c f es i) m fun j hj=>(Wu j (by omega)).2 (ut.1 (m3 j hj))]
   exact aH ((Wu m m1).1 m2)
  rw [k3 _ (k2 _ l1),pp NC,pp Sb]
 have h3':=(yD (P:=jm f)).1 h3;have er:kE f es=0:=by unfold kE;rw [rc (ut.2 h1),rc (ut.2 h2),rc (ut.2 h3)]
 rw [er,pp rfl];have l1:az eU (rP c f es 0)=afF (.done (.done r)):=by
  rw [bF (body:=eU) (fun i=>rP c f es i) (afE es) fun j hj=>(Wu j hj).2 (h3' j hj)]
  refine aH ?_;unfold eU rP;simp only [el,ol,tw,aj,hr er]
 rw [k3 _ (k2 _ l1),pp NC,pp Sb]
theorem S7 {l:List Int} {x:Int} (hl:(afE l)<=1000000) (hx:x∈l): ∃k,k<afE l/\l[k]! =x/\fv l x=afF (k:Int)/\MB l x=afF (k:Int):=by
 obtain ⟨k,k1,k2,k3⟩:=least (c:=fun k=>l[k]! =x) (aS.1 hx)
 have p:=hO (body:=oL) (fun i=>(l,x,(i:Int))) (afE l) (fun i=>l[i]! =x) (fun i=>(i:Int)) (e:= -1) (fun i hi=>by
  unfold oL;simp only [ay,aD (show (i:Int)<((afE l):Int) by omega),lw,ar l i hi,aj,aR (show i<1000000000 by omega)]
  refine ⟨fun h=>?_,fun h=>?_⟩
  · rw [ei h];rfl
  · rw [dO h];rfl) (by
  unfold oL;simp only [ay,aC (show¬((afE l):Int)<((afE l):Int) by omega),ol])
 exact ⟨k,k1,k2,(Nb l x hl).1 k k1 k2 k3,p.1 k k1 k2 k3⟩
theorem tk {l:List Int} {m:Nat} {x:Int} (h:(afE l)=m):(l++[x]).take m=l:=by rw [<- h,List.take_left]
section
variable {k : qO} {f : List Pt} {m n0 : Nat} {x : Int}
end
section
variable {k : qO} {P : Pt} {f : List Pt} {m : Nat}
end
end Go.Proofs.YtbgoiokedpjgbaaGreat
namespace Go.Proofs.YtbgoiokedpjgbaaGreat
abbrev Nd:=Int×Int×Int
structure Ni (P:Nat->Nat->Prop) (a b i:Nat):Prop where
 lo:a<=i
 hi:i<b
 top: ∀j,a<=j->j<b->j≠i->P i j
inductive oR (P:Nat->Nat->Prop) (N:List Nd):Nat->Nat->Int->Prop
 |nil {a b:Nat} (h:b<=a):oR P N a b (-1)
 |node {a b i:Nat} (h:Ni P a b i) (l:oR P N a i (N[i]!).2.1) (r:oR P N (i+1) b (N[i]!).2.2):oR P N a b (i:Int)
structure aeR (P:Nat->Nat->Prop) (n:Nat):Prop where
 tr: ∀i j k,i<n->j<n->k<n->P i j->P j k->P i k
 asy: ∀i j,i<n->j<n->P i j-> ¬P j i
 tot: ∀i j,i<n->j<n->i≠j-> ¬P i j->P j i
theorem Ni.one {P:Nat->Nat->Prop} {n a b i j:Nat} (o:aeR P n) (hb:b<=n) (h:Ni P a b i) (k:Ni P a b j):i=j:=by
 refine Classical.byContradiction fun dW=>?_
 have:=h.hi;have:=k.hi
 exact o.asy i j (by omega) (by omega) (h.top j k.lo k.hi (fun e=>dW e.symm)) (k.top i h.lo h.hi dW)
theorem oR.link {P:Nat->Nat->Prop} {N:List Nd} {a b:Nat} {r:Int} (h:oR P N a b r):(b<=a/\r= -1)\/(∃i:Nat,r=(i:Int)/\a<=i/\i<b):=by
 cases h with
 |nil h=>exact .inl ⟨h,rfl⟩
 |node h l r=>exact .inr ⟨_,rfl,h.lo,h.hi⟩
theorem oR.unique {P:Nat->Nat->Prop} {n:Nat} (o:aeR P n) {N N':List Nd} {a b:Nat} {r:Int} (h:oR P N a b r): ∀{r':Int},b<=n->oR P N' a b r'->r=r'/\ ∀k,a<=k->k<b->(N[k]!).2=(N'[k]!).2:=by
 induction h with
 |nil h=>
  intro r' hb h';cases h' with
  |nil _=>exact ⟨rfl,fun k h1 h2=>by omega⟩
  |node t _ _=>have:=t.lo;have:=t.hi;omega
 | @node a b i h l r ihl ihr=>
  intro r' hb h';have lo:=h.lo;have hi:=h.hi;cases h' with
  |nil q=>omega
  | @node _ _ j t l' r'=>
   have e:=h.one o hb t;subst e;obtain ⟨e1,f1⟩:=ihl (by omega) l'
   obtain ⟨e2,f2⟩:=ihr hb r';refine ⟨rfl,fun k h1 h2=>?_⟩
   rcases ww k i with q|q|q
   · exact f1 k h1 q
   · subst q;exact Prod.ext e1 e2
   exact f2 k (by omega) h2
theorem oR.other {P Q:Nat->Nat->Prop} {n:Nat} (o:aeR Q n) {N:List Nd} {a b:Nat} {r:Int} (h:oR P N a b r):b<=n->(∀k j:Nat,a<=k->k<b->a<=j->j<b->((N[k]!).2.1=(j:Int)\/(N[k]!).2.2=(j:Int))->Q k j)->oR Q N a b r:=by
 induction h with
 |nil h=>exact fun _ _=> .nil h
 | @node a b i h l r ihl ihr=>
  intro hb q;have lo:=h.lo;have hi:=h.hi;have tl:=ihl (by omega) fun k j h1 h2 h3 h4=>q k j h1 (by omega) h3 (by omega)
  have tr:=ihr hb fun k j h1 h2 h3 h4=>q k j (by omega) h2 (by omega) h4
  refine .node ⟨lo,hi,fun j h1 h2 dW=>?_⟩ tl tr
  rcases af4 j i with hj|hj
  · generalize hr:(N[i]!).2.1=s at tl
    cases tl with
    |nil q=>omega
    | @node _ _ m t _ _=>
     have t1:=t.lo;have t2:=t.hi;have qm:=q i m lo hi t1 (by omega) (.inl hr)
     by_cases e:j=m
     · rw [e];exact qm
     exact o.tr i m j (by omega) (by omega) (by omega) qm (t.top j h1 hj e)
  generalize hr:(N[i]!).2.2=s at tr
  cases tr with
  |nil q=>omega
  | @node _ _ m t _ _=>
   have t1:=t.lo;have t2:=t.hi;have qm:=q i m lo hi (by omega) t2 (.inr hr)
   by_cases e:j=m
   · rw [e];exact qm
   exact o.tr i m j (by omega) (by omega) (by omega) qm (t.top j (by omega) h2 e)
theorem oR.kids {P:Nat->Nat->Prop} {N:List Nd} {a b:Nat} {r:Int} (h:oR P N a b r): ∀k,a<=k->k<b-> ∀c:Int,((N[k]!).2.1=c\/(N[k]!).2.2=c)->c= -1\/ ∃j:Nat,c=(j:Int)/\a<=j/\j<b/\j≠k/\P k j/\r≠c:=by
 induction h with
 |nil h=>intro k h1 h2;omega
 | @node a b i h l r ihl ihr=>
  have lo:=h.lo;have hi:=h.hi;intro k h1 h2 c hc;rcases ww k i with q|q|q
  · rcases ihl k h1 q c hc with e|⟨j,e,j1,j2,j3,j4,_⟩
    · exact .inl e
    exact .inr ⟨j,e,j1,by omega,j3,j4,by rw [e];omega⟩
  · subst q
    rcases hc with hc|hc
    · rcases l.link with ⟨_,e⟩|⟨j,e,j1,j2⟩
      · exact .inl (hc▸e)
      exact .inr ⟨j,hc▸e,j1,by omega,by omega,h.top j j1 (by omega) (by omega),by rw [<- hc,e];omega⟩
    rcases r.link with ⟨_,e⟩|⟨j,e,j1,j2⟩
    · exact .inl (hc▸e)
    exact .inr ⟨j,hc▸e,by omega,j2,by omega,h.top j (by omega) j2 (by omega),by rw [<- hc,e];omega⟩
  rcases ihr k (by omega) h2 c hc with e|⟨j,e,j1,j2,j3,j4,_⟩
  · exact .inl e
  exact .inr ⟨j,e,by omega,j2,j3,j4,by rw [e];omega⟩
theorem oR.up {P:Nat->Nat->Prop} {N:List Nd} {a b:Nat} {r:Int} (h:oR P N a b r): ∀k:Nat,a<=k->k<b->(k:Int)≠r-> ∃j,a<=j/\j<b/\((N[j]!).2.1=(k:Int)\/(N[j]!).2.2=(k:Int))/\ ∀m,a<=m->m<b->((N[m]!).2.1=(k:Int)\/(N[m]!).2.2=(k:Int))->m=j:=by
 induction h with
 |nil h=>intro k h1 h2;omega
 | @node a b i h l r ihl ihr=>
  have lo:=h.lo;have hi:=h.hi;have lk:=l.kids;have rk:=r.kids;intro k h1 h2 dW;have hki:k≠i:=fun e=>dW (by rw [e])
  rcases af4 k i with q|q
  · by_cases er:(k:Int)=(N[i]!).2.1
    · refine ⟨i,lo,hi,.inl er.symm,fun m m1 m2 hm=>?_⟩
      rcases ww m i with w|w|w
      · rcases lk m m1 w _ hm with e|⟨j,e,_,_,_,_,hr⟩
        · omega
        exact absurd er.symm hr
      · exact w
      rcases rk m (by omega) m2 _ hm with e|⟨j,e,j1,_⟩<;>omega
    obtain ⟨j,j1,j2,j3,j4⟩:=ihl k h1 q er
    refine ⟨j,j1,by omega,j3,fun m m1 m2 hm=>?_⟩
    rcases ww m i with w|w|w
    · exact j4 m m1 w hm
    · subst w
      rcases hm with hm|hm
      · exact absurd hm.symm er
      rcases r.link with ⟨_,e⟩|⟨p,e,p1,p2⟩<;>omega
    rcases rk m (by omega) m2 _ hm with e|⟨p,e,p1,_⟩<;>omega
  by_cases er:(k:Int)=(N[i]!).2.2
  · refine ⟨i,lo,hi,.inr er.symm,fun m m1 m2 hm=>?_⟩
    rcases ww m i with w|w|w
    · rcases lk m m1 w _ hm with e|⟨j,e,_,j2,_⟩<;>omega
    · exact w
    rcases rk m (by omega) m2 _ hm with e|⟨j,e,_,_,_,_,hr⟩
    · omega
    exact absurd er.symm hr
  obtain ⟨j,j1,j2,j3,j4⟩:=ihr k (by omega) h2 er
  refine ⟨j,by omega,j2,j3,fun m m1 m2 hm=>?_⟩
  rcases ww m i with w|w|w
  · rcases lk m m1 w _ hm with e|⟨p,e,_,p2,_⟩<;>omega
  · subst w
    rcases hm with hm|hm
    · rcases l.link with ⟨_,e⟩|⟨p,e,p1,p2⟩<;>omega
    exact absurd hm.symm er
  exact j4 m (by omega) m2 hm
inductive GP (P:Nat->Nat->Prop) (N:List Nd):Nat->Nat->Int->List Nat->Prop
 |nil {a b:Nat} (h:b<=a):GP P N a b (-1) []
 |cons {a b k:Nat} {es:List Nat} (h:Ni P a b k) (l:oR P N a k (N[k]!).2.1) (r:GP P N (k+1) b (N[k]!).2.2 es):GP P N a b (k:Int) (k::es)
theorem GP.ls {P:Nat->Nat->Prop} {N:List Nd} {a b:Nat} {r:Int} {es:List Nat} (h:GP P N a b r es):oR P N a b r:=by
 induction h with
 |nil h=>exact .nil h
 |cons h l r ih=>exact .node h l ih
theorem GP.mem {P:Nat->Nat->Prop} {N:List Nd} {a b:Nat} {r:Int} {es:List Nat} (h:GP P N a b r es): ∀e∈es,a<=e/\e<b:=by
 induction h with
 |nil h=>intro e he;cases he
 |cons h l r ih=>
  intro e he;have lo:=h.lo;have hi:=h.hi;rcases aff.1 he with rfl|he
  · exact ⟨lo,hi⟩
  have:=ih e he;omega
end Go.Proofs.YtbgoiokedpjgbaaGreat
namespace Go.Proofs.YtbgoiokedpjgbaaGreat
open Go.Vm Classical
def ahP (f:List Pt) (t:Int×Int) (i j:Nat):Prop:=leads f[i]! f[j]! t
theorem DV {p q:Pt} {t:Int×Int} (h:leads p q t): ¬leads q p t:=by
 unfold leads at*;rw [Kk] at*;generalize p.2.1*t.2+p.2.2*t.1=a at*;generalize q.2.1*t.2+q.2.2*t.1=b at*;omega
theorem aeS {f:List Pt} (h:fT f) (t:Int×Int):aeR (ahP f t) (afE f) where
 tr:=fun _ _ _ _ _ _ h1 h2=>Nh h1 h2
 asy:=fun _ _ _ _ h=>DV h
 tot:=fun _ _ hi hj dW hn=>yG t (fun e=>dW (AX h hi hj e)) hn
structure yI (f:List Pt) (t:Int×Int) (N:List Nd) (r:Int):Prop where
 len:(afE N)=afE f
 ids: ∀k,k<afE f->(N[k]!).1=(f[k]!).1
 ls:oR (ahP f t) N 0 (afE f) r
theorem yI.same {f:List Pt} (h:fT f) {t:Int×Int} {N N':List Nd} {r r':Int} (a:yI f t N r) (b:yI f t N' r'):N=N'/\r=r':=by
 obtain ⟨e1,e2⟩:=a.ls.unique (aeS h t) (afc _) b.ls;refine ⟨qP (by rw [a.len,b.len]) fun k hk=>?_,e1⟩
 have hk:k<(afE f):=by rw [<- a.len];exact hk
 exact Prod.ext (by rw [a.ids k hk,b.ids k hk]) (e2 k (F0s _) hk)
def Below (N:List Nd) (k j:Nat):Prop:=(N[j]!).2.1=(k:Int)\/(N[j]!).2.2=(k:Int)
noncomputable def Eb (N:List Nd) (k:Nat):Nat:=if h: ∃j,j<afE N/\Below N k j then h.choose else (afE N)
noncomputable def arS (N:List Nd) (k:Nat):List (Int×Int):=if Eb N k<(afE N) then [((N[k]!).1,(N[Eb N k]!).1)] else []
noncomputable def Wv (N:List Nd):Nat->List (Int×Int)
 |0=>[]
 |k+1=>Wv N k++arS N k
section
variable {f : List Pt} {t : Int × Int} {N : List Nd} {r : Int}
theorem yI.par (h:yI f t N r) {k:Nat} (hk:k<afE f):((k:Int)=r->Eb N k=afE N)/\((k:Int)≠r->Eb N k<afE N/\Below N k (Eb N k)/\Eb N k≠k/\ahP f t (Eb N k) k)/\ ∀m,m<afE N->Below N k m->m=Eb N k:=by
 have ln:=h.len
 by_cases hr:(k:Int)=r
 · have none: ¬ ∃j,j<afE N/\Below N k j:=by
    rintro ⟨j,hj,hb⟩;rcases h.ls.kids j (F0s _) (by omega) (k:Int) hb with e|⟨_,_,_,_,_,_,e⟩
    · omega
    exact e hr.symm
   have e:Eb N k=(afE N):=by unfold Eb;rw [dif_neg none]
   exact ⟨fun _=>e,fun q=>absurd hr q,fun m hm hb=>absurd ⟨m,hm,hb⟩ none⟩
 obtain ⟨j,_,j2,j3,j4⟩:=h.ls.up k (F0s _) hk hr
 have ex: ∃j,j<afE N/\Below N k j:=⟨j,by omega,j3⟩
 have e:Eb N k=j:=by
  unfold Eb;rw [dif_pos ex]
  have:=ex.choose_spec
  exact j4 _ (F0s _) (by omega) this.2
 refine ⟨fun q=>absurd q hr,fun _=>?_,fun m hm hb=>by rw [e];exact j4 m (F0s _) (by omega) hb⟩
 rw [e];refine ⟨by omega,j3,?_,?_⟩
 · rcases h.ls.kids j (F0s _) j2 (k:Int) j3 with q|⟨i,q,_,_,q2,_⟩
   · omega
   intro w;omega
 rcases h.ls.kids j (F0s _) j2 (k:Int) j3 with q|⟨i,q,_,_,_,q2,_⟩
 · omega
 have:i=k:=by omega
 rw [<- this];exact q2
end
def o1 (f:List Pt) (t:Int×Int) (e c:Nat) (i:Nat) (lc:Int) (N:List Nd) (E:List Int) (left:Int):=
 (e,c,(i:Int),f,((afE f):Int),(i:Int),f,t.1,t.2,(0:Int),lc,N,E,(f[i]!).1,(f[i]!).2.1,(f[i]!).2.2,(f[i]!).1,left,(-1:Int))
section
variable {f : List Pt} {t : Int × Int} {N : List Nd} {r : Int}
theorem yI.link (h:yI f t N r) {j:Nat} (hj:j<afE f) {c:Int} (hc:(N[j]!).2.1=c\/(N[j]!).2.2=c):c= -1\/(0<=c/\c<afE N):=by
 have ln:=h.len;rcases h.ls.kids j (F0s _) hj c hc with e|⟨k,e,_,k2,_⟩
 · exact .inl e
 exact .inr ⟨by omega,by omega⟩
end
theorem aeT (c:aP) (es:List (Int×Int)) (h1:(afE es)<=1000000) (_:(afE c.ai.ce)<=1000000):
 yn c es=afF (afQ (afE es=afE c.ai.ce/\ ∀i,i<afE c.ai.ce->(c.ai.ce[i]!).2∈es)):=by
 unfold yn gi gR;simp only [ay]
 by_cases h0:(afE es)=afE c.ai.ce
 case neg=>rw [dO (by omega),ol,aC (fun q=>h0 q.1)]
 rw [ei (by omega),lw]
 have key:=hO (body:=bI) (fun i=>(c.ai.ce,es,((afE c.ai.ce):Int),(i:Int))) (afE c.ai.ce) (fun i=>(c.ai.ce[i]!).2∉es) (fun i=>(i:Int)) (e:= -1) (fun i hi=>by
  unfold bI z6;simp only [aD (show (i:Int)<((afE c.ai.ce):Int) by omega),lw,ar c.ai.ce i hi,aj,kZ es _ h1,aR (show i<1000000000 by omega)]
  refine ⟨fun q=>?_,fun q=>?_⟩
  · rw [aC q];rfl
  · rw [aD (ut.1 q)];rfl) (by
  unfold bI;simp only [aC (show¬((afE c.ai.ce):Int)<((afE c.ai.ce):Int) by omega),ol])
 by_cases hx: ∀i,i<afE c.ai.ce->(c.ai.ce[i]!).2∈es
 · rw [show az bI (c.ai.ce,es,((afE c.ai.ce):Int),0)=_ from key.2 (fun i hi=>ut.2 (hx i hi)),aj,aj,aC (by omega),aD ⟨h0,hx⟩]
   rfl
 obtain ⟨i,hi⟩:=M2.1 hx
 obtain ⟨hi,hn⟩:=acl.1 hi;obtain ⟨m,m1,m2,m3⟩:=least (c:=fun i=>(c.ai.ce[i]!).2∉es) ⟨i,hi,hn⟩
 rw [show az bI (c.ai.ce,es,((afE c.ai.ce):Int),0)=_ from key.1 m m1 m2 m3,aj,aj,aD (by omega),aC (fun w=>hx w.2)]
 rfl
structure Ww (k:C5):Prop where
 A9:bk k.jp
 ls:yI k.jp.ii.am k.jp.ci k.ls.lm k.ls.lc
 cert:(k.jp.ai.ce.map fun x=>x.2).Perm (Wv k.ls.lm (afE k.jp.ii.am))
structure am' (k:C5):Prop where
 c:M6 k.jp
 n:(afE k.ls.lm)<=1000
theorem GQ {α:Type} [BEq α] [LawfulBEq α]: ∀{a b:List α},a.Nodup->(∀x∈a,x∈b)->afE a<=afE b
 | [],_,_,_=>F0s _
 |x::a,b,hd,h=>by
  rw [List.nodup_cons] at hd;have hx:=h x List.mem_cons_self
  have:=GQ (a:=a) (b:=b.erase x) hd.2 (fun y hy=>by
   rw [List.mem_erase_of_ne (fun e=>hd.1 (by rw [<- e];exact hy))]
   exact h y (List.mem_cons_of_mem _ hy))
  rw [List.length_erase_of_mem hx] at this
  have:=List.length_pos_of_mem hx
  rw [Do];omega
theorem DW {α:Type} [BEq α] [LawfulBEq α] {a b:List α} (ha:a.Nodup) (hb:b.Nodup) (h1: ∀x∈a,x∈b) (h2: ∀x∈b,x∈a):a.Perm b:=ni ha h1 (GQ hb h2)
theorem Pw {c:aP} (ok:bk c) {es:List (Int×Int)} (DS:zu c.ii.am es) (pm:(c.ai.ce.map fun x=>x.2).Perm es):lQ c c.ii es=afF (c,0):=by
 have bd:=ok.bd;have el:=DS.len;have f1:=ok.ie.1;have k1:=bF (body:=c7) (fun i=>kP c c.ii.am es i c) (afE c.ai.ce) (fun i hi=>by
  have uu:(c.ai.ce[i]!).2∈es:=pm.mem_iff.1 (mJ.1 ⟨i,hi,rfl⟩);unfold c7 kP;simp only [aD (show (i:Int)<((afE c.ai.ce):Int) by omega),lw,ar c.ai.ce i hi,aj,kZ _ _ DS.len,aD uu,IR,ol,aR (show i<1000000000 by omega)])
 refine (show lQ c c.ii es=_ from k1).trans (aH ?_);unfold c7 kP;simp only [aC (show¬((afE c.ai.ce):Int)<((afE c.ai.ce):Int) by omega),ol,Cb c.ii.am c.ii.am (by omega),aj,IR,decide_true]
 have k2:=bF (body:=dA) (fun i=>eP es i c) (afE es) (fun i hi=>by
  have uu:rU c.ai.ce es[i]!:=mJ.2 (pm.mem_iff.2 (aX hi));unfold dA eP;simp only [aD (show (i:Int)<((afE es):Int) by omega),lw,ar es i hi,aj,zq,GC c.ai.ce es[i]! (by omega),aD uu,aR (show i<1000000000 by omega)])
 refine (show _=_ from k2).trans (aH ?_);unfold dA eP;simp only [aC (show¬((afE es):Int)<((afE es):Int) by omega),ol]
structure Px (R:C5) (F:List Pt) (t:Int×Int):Prop where
 ok:Ww R
 ie:R.jp.ii.am=F
 ci:R.jp.ci=t
theorem Px.short {R:C5} {F:List Pt} {t:Int×Int} (h:Px R F t):am' R:=by
 have:=h.ok.A9.ie.1
 refine ⟨h.ok.A9.short,?_⟩
 have:=h.ok.ls.len
 omega
theorem Px.A2 {R:C5} {F:List Pt} {t:Int×Int} (h:Px R F t):oO R.jp:=h.ok.A9.fit
theorem Px.same {R S:C5} {F:List Pt} {t:Int×Int} (h:Px R F t) (k:Px S F t):R.ls=S.ls:=by
 have a:=h.ok.ls;rw [h.ie,h.ci] at a;have b:=k.ok.ls;rw [k.ie,k.ci] at b;obtain ⟨e1,e2⟩:=a.same (by rw [<- h.ie];exact h.ok.A9.ie.2.2) b
 obtain ⟨_,⟨r,N⟩⟩:=R;obtain ⟨_,⟨r',N'⟩⟩:=S;simp only at e1 e2;subst e1 e2;rfl
theorem S8 {f:List Pt} {m:Nat} (h:m<=afE f) (p:Pt):(oQ f m p).eraseIdx m=f:=by
 unfold oQ
 have:(f.take m).length=m:=by rw [AC];omega
 rw [List.eraseIdx_append_of_length_le (by omega),this,afo,List.eraseIdx_cons_zero,af7]
theorem Kn {f:List Pt} {m:Nat} {p q:Pt}:q∈oQ f m p↔q=p\/q∈f:=by
 unfold oQ;rw [af6,aff];constructor
 · rintro (h|h|h)
   · exact .inr (afa h)
   · exact .inl h
   exact .inr (afb h)
 rintro (h|h)
 · exact .inr (.inl h)
 rw [<- af7 m f] at h
 rcases af6.1 h with h|h
 · exact .inl h
 exact .inr (.inr h)
theorem IF {f:List Pt} (hs:fT f) {q:Nat} (hq:q<afE f) {p:Pt}:p∈f.eraseIdx q↔p∈f/\p.1≠(f[q]!).1:=by
 rw [List.mem_eraseIdx_iff_getElem];constructor
 · rintro ⟨i,hi,dW,rfl⟩
   refine ⟨List.getElem_mem _,fun e=>?_⟩
   rw [<- getElem!_pos f i hi] at e;rcases ww i q with c|c|c
   · have:=dH hs c hq;omega
   · exact dW c
   have:=dH hs c hi;omega
 rintro ⟨hp,dW⟩
 obtain ⟨i,hi,rfl⟩:=aS.1 hp;refine ⟨i,hi,fun e=>dW (by rw [e]),?_⟩
 rw [getElem!_pos f i hi]
theorem Wx {f:List Pt} (hs:fT f) {q:Pt} (h:q∈f):fX f q.1=q:=by
 obtain ⟨i,hi,rfl⟩:=aS.1 h;exact B9 hs hi rfl
theorem Rl {f:List Pt} (hs:fT f) {x:Int} (h:fh f x):fX f x∈f/\(fX f x).1=x:=by
 obtain ⟨i,hi,rfl⟩:=h;rw [Wx hs (aX hi)];exact ⟨aX hi,rfl⟩
abbrev Wy (f:List Pt) (t:Int×Int) (a b:Int):Prop:=leads (fX f a) (fX f b) t
theorem IG {f:List Pt} (hs:fT f) {t:Int×Int} {l:List Int} (hp: ∀x∈l,fh f x) (nd:l.Nodup):(∀e∈iE l,leads (fX f e.2) (fX f e.1) t)↔Hp (Wy f t) l:=by
 constructor
 · intro h j h1 h2 c
   have hm:(l[j]!,l[par j]!)∈iE l:=by
    refine aS.2 ⟨j-1,by rw [s4];omega,?_⟩
    rw [yE l (show j-1<afE l-1 by omega),show j-1+1=j by omega]
   exact DV c (h _ hm)
 intro h e he
 obtain ⟨i,hi,rfl⟩:=aS.1 he;rw [s4] at hi;rw [yE l hi]
 have:=h (i+1) (by omega) (by omega)
 have pe:par (i+1)=i / 2:=by simp only [par];omega
 rw [pe] at this;refine yG t ?_ this;rw [(Rl hs (hp _ (aX (by omega)))).2,(Rl hs (hp _ (aX (by omega)))).2]
 exact fun e=>fR.1 nd (i / 2) (i+1) (by omega) (by omega) e.symm
structure S9 (R:qO) (F:List Pt) (t:Int×Int):Prop where
 ok:pH R
 ie:R.jp.ii.am=F
 ci:R.jp.ci=t
theorem pH.len {k:qO} (h:pH k):(afE k.bv)=(afE k.jp.ii.am):=by rw [<- h.perm.length_eq];exact afj ..
theorem pH.bd {k:qO} (h:pH k):(afE k.bv)<=64:=by have:=h.len;have:=h.A9.ie.1;omega
theorem pH.has {k:qO} (h:pH k): ∀x∈k.bv,fh k.jp.ii.am x:=fun _ hx=>oP.1 (h.perm.mem_iff.2 hx)
theorem pH.nd {k:qO} (h:pH k):k.bv.Nodup:=h.perm.nodup_iff.1 (zw h.A9.ie.2.2)
theorem pH.hp {k:qO} (h:pH k):Hp (Wy k.jp.ii.am k.jp.ci) k.bv:=(IG h.A9.ie.2.2 h.has h.nd).1 h.lead
theorem GI.bv {c:aP} {f:List Pt} (cS:bw f) {l:List Int} (pm:(iF f).Perm l) {R:qO} (e:R.bv=l) (q:GI c f (iE l) R.jp) (h:Hp (Wy f c.ci) l):S9 R f c.ci:=by
 have nd:=pm.nodup_iff.1 (zw cS.2.2);refine ⟨⟨q.ok,by rw [q.ie,e];exact pm,?_,?_⟩,q.ie,q.ci⟩
 · rw [e]
   exact DW (yF q.ok.uO) (DT nd) (fun x hx=>by obtain ⟨y,hy,rfl⟩:=List.mem_map.1 hx;exact q.sub y hy) (fun x hx=>mJ.1 (q.has x hx))
 rw [e,q.ie,q.ci]
 exact (IG cS.2.2 (fun x hx=>oP.1 (pm.mem_iff.2 hx)) nd).2 h
theorem aeU {f:List Pt} {q:Nat} (hq:q<afE f) {p:Pt} (he:(f[q]!).1=p.1):iF (f.set q p)=iF f:=by
 unfold iF;rw [List.map_set,<- he];refine List.ext_getElem? fun j=>?_
 rw [afh];split
 · rename_i h
   subst h;rw [pp (by rw [afj];exact hq),List.getElem?_map,List.getElem?_eq_getElem hq,getElem!_pos _ q hq];rfl
 rfl
theorem GR {α:Type} (z:α): ∀(l:List (Int×α)) (k:Int) (a:α) (j:Int),qA z (o3 l k a) j=if j=k then a else qA z l j
 | [],k,a,j=>by
  simp only [o3,qA]
  by_cases h:j=k
  · rw [pp h,ei h];rfl
  rw [rc h,dO h];rfl
 |p::l,k,a,j=>by
  simp only [o3]
  by_cases h:k=p.1
  · rw [ei h,lw]
    simp only [qA]
    by_cases c:j=k
    · rw [pp c,ei c];rfl
    rw [rc c,dO c,ol,dO (by rw [<- h];exact c),ol]
  rw [dO h,ol]
  simp only [qA];rw [GR z l k a j]
  by_cases c:j=p.1
  · rw [ei c,lw,lw,rc (by rw [c];exact fun e=>h e.symm)]
  rw [dO c,ol,ol]
section
variable {f : List Pt} {t : Int × Int}
end
def Ec (f:List Pt) (x:Int):Prop:=x= -1\/(0<=x/\fh f x)
theorem Ec.has {f:List Pt} {x:Int} (h:Ec f x) (h0:0<=x):fh f x:=by rcases h with h|h;omega;exact h.2
theorem nP {p w:List Int} {i:Nat} (hi:i<afE w+afE p) (hb:(afE w)+afE p<=1000):iv ⟨p,w⟩ (i:Int)=afF (bA p w i):=by
 unfold iv bA;simp only [ay]
 by_cases h:i<afE w
 · rw [aD (by omega),lw,ar w i h,aj,pp h]
 rw [aC (by omega),ol,jb ⟨by omega,by omega⟩,show (i:Int) - ((afE w):Int)=((i-(afE w):Nat):Int) by omega,ar p _ (by omega),aj,rc h]
theorem mW {p w:List Int} {i:Nat} (hi:i<afE w+afE p) (hb:(afE w)+afE p<=1000):gX ⟨p,w⟩ (i:Int)=afF (bA p w i):=by
 unfold gX bA;have e:aa .i64 ((i:Int) - ((afE w):Int))=(i:Int) - ((afE w):Int):=jb ⟨by omega,by omega⟩
 simp only [ay,e]
 by_cases h:i<afE w
 · rw [aC (by omega),ol,ar w i h,aj,pp h]
 rw [aD (by omega),lw,show (i:Int) - ((afE w):Int)=((i-(afE w):Nat):Int) by omega,ar p _ (by omega),aj,rc h]
theorem nj {i:Nat} (h:i<1000) (k:Nat) (hk:k<=2):aa .i64 ((aa .i64 (2*(i:Int)))+(k:Int))=((2*i+k:Nat):Int):=by
 rw [jb (n:=2*(i:Int)) ⟨by omega,by omega⟩,jb ⟨by omega,by omega⟩];omega
theorem Cf {f:List Pt} (cS:bw f) {t:Int×Int} (yu:o4 t) {x y:Int} (hx:Ec f x) (hy:Ec f y):rZ ⟨f⟩ t x y=afF (vG f t x y):=by
 unfold rZ vG
 by_cases h1:x<0
 · rw [aD h1,lw,pp h1]
 rw [aC h1,ol,rc h1]
 by_cases h2:y<0
 · rw [aD h2,lw,pp h2]
 rw [aC h2,ol,rc h2];have p1:=hx.has (by omega)
 have p2:=hy.has (by omega)
 obtain ⟨j,j1,j2,j3⟩:=uK cS p1;obtain ⟨k,k1,k2,k3⟩:=uK cS p2;simp only [j2,k2,aj,ar f j j1,ar f k k1,j3,k3,Gf (eY cS p1).1 (eY cS p2).1 yu]
 by_cases h:leads (fX f x) (fX f y) t
 · rw [aD h,lw,pp h]
 rw [aC h,ol,rc h]
theorem GS:cR=aQ:=rfl
theorem pI {f:List Pt} (cS:bw f) {x:Int} (h:fh f x): ∃k,k<afE f/\iY ⟨f⟩ x=afF ((k:Int),afI)/\f[k]! =fX f x:=by
 have h1:=cS.1;have bs:=qi f x (by omega) (fun i j=>dH cS.2.2)
 obtain ⟨k,hk,he⟩:=h;refine ⟨k,hk,?_,(B9 cS.2.2 hk he).symm⟩;unfold iY;rw [GS,bs.1 k hk he];rfl
theorem De {f:List Pt} (cS:bw f) {x:Int} (h: ¬fh f x): ∃m:Nat,iY ⟨f⟩ x=afF ((m:Int),afK):=by
 have h1:=cS.1;have bs:=qi f x (by omega) (fun i j=>dH cS.2.2)
 obtain ⟨m,_,_,_,e⟩:=bs.2 (fun k hk he=>h ⟨k,hk,he⟩)
 refine ⟨m,?_⟩;unfold iY;rw [GS,e];rfl
theorem GU {f:List Pt} (cS:bw f) {t:Int×Int} (r:cC t) (yu:o4 t) {x y:Int} (hx:Ec f x) (hy:Ec f y) (dW:0<=x->x≠y):nJ ⟨f⟩ t x y=afF (vG f t x y):=by
 unfold nJ vG
 by_cases h1:x<0
 · rw [aD (by split<;>omega),lw,pp h1]
   have:x= -1:=by rcases hx with h|h;exact h;omega
   have: -1<=y:=by rcases hy with h|h<;>omega
   congr 1
   split<;>omega
 rw [rc h1]
 by_cases h2:y<0
 · rw [aD (by split<;>omega),lw,pp h2]
   congr 1
   split<;>omega
 rw [aC (by split<;>omega),ol,rc h2]
 have p1:=hx.has (by omega)
 have p2:=hy.has (by omega)
 obtain ⟨j,j1,j2,j3⟩:=pI cS p1;obtain ⟨k,k1,k2,k3⟩:=pI cS p2;obtain ⟨a1,a2⟩:=eY cS p1;obtain ⟨b1,b2⟩:=eY cS p2;simp only [j2,k2,aj,ar f j j1,ar f k k1,j3,k3];rcases Ea a1 b1 yu r with h|⟨h,_⟩
 · rw [h,aj]
   by_cases h:leads (fX f x) (fX f y) t
   · rw [pp h];dsimp only;rw [aD h,lw]
   rw [rc h];dsimp only;rw [aC h,ol]
 rw [a2,b2] at h;exact absurd h (dW (by omega))
def o5 (B:List Int) (i:Nat):List Int:=List.replicate i 0++B.drop i
theorem pJ {B:List Int} {i:Nat} (h:i<=afE B):(o5 B i).length=(afE B):=by unfold o5;rw [PP,v6,NE];omega
theorem zz {B:List Int} {i k:Nat} (h:i<=k) (hi:i<=afE B):(o5 B i)[k]! =B[k]!:=by
 unfold o5;rw [ej (by rw [v6];exact h),kX,v6]
 congr 1;omega
theorem w5 {p B:List Int} {i k:Nat} (h:i<=k) (hi:i<=afE B):bA p (o5 B i) k=bA p B k:=by
 unfold bA;rw [pJ hi];split
 · exact zz h hi
 rfl
theorem IH {B:List Int} {i:Nat} (h:i<afE B):(o5 B (i+1)).set i B[i]! =o5 B i:=by
 refine qP (by rw [adc,pJ (by omega),pJ (by omega)]) fun k hk=>?_
 rw [adc,pJ (by omega)] at hk
 rw [aU]
 by_cases e:k=i
 · rw [pp ⟨e,by rw [pJ (by omega)];omega⟩,zz (by omega) (by omega),e]
 rw [rc (fun x=>e x.1)]
 by_cases h2:k<i
 · unfold o5
   rw [de (by rw [v6];omega),de (by rw [v6];omega)]
   rw [getElem!_pos _ k (by rw [v6];omega),getElem!_pos _ k (by rw [v6];omega),af5,af5]
 rw [zz (by omega) (by omega),zz (by omega) (by omega)]
section
variable {f : List Pt} (cS : bw f) {t : Int × Int} (r : cC t) (yu : o4 t) {p : List Int} (h1 : 1 <= (afE p)) (h64 : (afE p) <= 64) (hk : ∀ x ∈ p, Ec f x)
include cS yu h1 h64 hk
theorem ED {i:Nat} (hi:i<(bR f t p).length+afE p):Ec f (bA p (bR f t p) i):=by
 have _:=cS;have _:=yu;have _:=h64;exact hk _ (jV (ew (f:=f) (t:=t) h1).1 (ew h1).uN hi)
theorem Py {i:Nat} (hi:i<(bR f t p).length):
 lH ((i:Int),f,t.1,t.2,p,o5 (bR f t p) (i+1))=afF (.next ((i:Int) -1,f,t.1,t.2,p,o5 (bR f t p) i)):=by
 have R:=ew (f:=f) (t:=t) (p:=p) h1;have bl:=R.1;have pl:=pJ (B:=bR f t p) (i:=i+1) (by omega)
 unfold lH;simp only [aD (show (0:Int)<=(i:Int) by omega),lw]
 have k1:=nj (i:=i) (by omega) 1 (by omega)
 have k2:=nj (i:=i) (by omega) 2 (by omega)
 rw [show aa .i64 (aa .i64 (2*(i:Int))+1)=((2*i+1:Nat):Int) from k1,show aa .i64 (aa .i64 (2*(i:Int))+2)=((2*i+2:Nat):Int) from k2];rw [nP (by omega) (by omega),aj,nP (by omega) (by omega),aj,w5 (by omega) (by omega),w5 (by omega) (by omega)]
 rw [show rZ ⟨f⟩ (t.1,t.2) _ _=_ from Cf cS yu (ED cS yu h1 h64 hk (by omega)) (ED cS yu h1 h64 hk (by omega)),aj,ar _ i (by omega),aj,<- R.2 i hi]
 show afF (Step.next (_,f,t.1,t.2,p,(o5 (bR f t p) (i+1)).set i _))=_
 rw [IH hi,jb ⟨by omega,by omega⟩]
theorem GV:tG ⟨f⟩ t p=afF ⟨p,bR f t p⟩:=by
 have R:=ew (f:=f) (t:=t) (p:=p) h1;have bl:=R.1;have w1:aa .i64 (((afE p):Int) -1)=((afE p-1:Nat):Int):=mT (by omega) h1
 have loop: ∀n:Nat,n<=(bR f t p).length->az lH ((n:Int) -1,f,t.1,t.2,p,o5 (bR f t p) n)=afF ⟨p,bR f t p⟩:=by
  intro n
  induction n with
  |zero=>
   intro _;refine aH ?_;unfold lH;rw [aC (by omega),ol]
   rfl
  |succ n ih=>
   intro hn;have st:=Py cS yu h1 h64 hk (t:=t) (i:=n) (by omega)
   rw [show ((n+1:Nat):Int) -1=(n:Int) by omega,ba st]
   exact ih (by omega)
 unfold tG;simp only [aZ (show (afE p)<=1048576 by omega),aj,ay,w1,ei rfl,lw,Gr (0:Int) (show (afE p)-1<=1048576 by omega),v6]
 have:=loop (bR f t p).length (afc _)
 unfold o5 at this;rw [af2,afk,show (bR f t p).length=afE p-1 by omega] at this
 rw [jb (n:=((afE p-1:Nat):Int) -1) ⟨by omega,by omega⟩]
 exact this
include r
theorem Ko (ho:zF p) {i:Nat} (hi:i<(bR f t p).length):
 ia ((i:Int),f,t.1,t.2,p,o5 (bR f t p) (i+1))=afF (.next ((i:Int) -1,f,t.1,t.2,p,o5 (bR f t p) i)):=by
 have R:=ew (f:=f) (t:=t) (p:=p) h1;have bl:=R.1;have pl:=pJ (B:=bR f t p) (i:=i+1) (by omega)
 unfold ia;simp only [aD (show (0:Int)<=(i:Int) by omega),lw]
 have k1:=nj (i:=i) (by omega) 1 (by omega)
 have k2:=nj (i:=i) (by omega) 2 (by omega)
 rw [show aa .i64 (aa .i64 (2*(i:Int))+1)=((2*i+1:Nat):Int) from k1,show aa .i64 (aa .i64 (2*(i:Int))+2)=((2*i+2:Nat):Int) from k2];rw [mW (by omega) (by omega),aj,mW (by omega) (by omega),aj,w5 (by omega) (by omega),w5 (by omega) (by omega)]
 rw [show nJ ⟨f⟩ (t.1,t.2) _ _=_ from GU cS r yu (ED cS yu h1 h64 hk (by omega)) (ED cS yu h1 h64 hk (by omega)) (fun h0=>EC R.1 R.uN ho hi h0),aj,ar _ i (by omega),aj,<- R.2 i hi]
 show afF (Step.next (_,f,t.1,t.2,p,(o5 (bR f t p) (i+1)).set i _))=_
 rw [IH hi,jb ⟨by omega,by omega⟩]
theorem Df:p6 ⟨f⟩ p=afF afI:=by
 have _:=r;have _:=yu;have st:=bF (body:=mh) (fun i=>(p,((afE p):Int),(i:Int),f)) (afE p) (fun i hi=>by
  have id:=hk _ (aX hi);unfold mh;simp only [aD (show (i:Int)<((afE p):Int) by omega),lw,ar p i hi,aj,aR (show i<1000000000 by omega)]
  by_cases h:fh f p[i]!
  · obtain ⟨k,_,e,_⟩:=pI cS h
    rw [e,aj,lw]
  obtain ⟨m,e⟩:=De cS h
  rw [e,aj,ol];rcases id with id|id
  · rw [ei id];rfl
  exact absurd id.2 h)
 unfold p6;refine (show _=_ from st).trans (aH ?_);unfold mh;simp only [aC (show¬((afE p):Int)<((afE p):Int) by omega),ol]
 rfl
def GW (p:List Int):Nat->List (Int×Bool)
 |0=>o3 [] (-1) afK
 |i+1=>o3 (GW p i) p[i]! (afQ (0<=p[i]!))
omit cS r yu h1 h64 hk in
theorem GX (p:List Int): ∀(i:Nat) (k:Int),qA afK (GW p i) k=afQ (0<=k/\ ∃j,j<i/\p[j]! =k)
 |0,k=>by
  unfold GW;rw [GR];rw [decide_eq_false (fun h=>by obtain ⟨_,j,hj,_⟩:=h;omega)]
  split<;>rfl
 |i+1,k=>by
  unfold GW;rw [GR,GX p i k]
  by_cases e:k=p[i]!
  · rw [pp e]
    refine decide_eq_decide.2 ⟨fun h=>⟨by omega,i,by omega,e.symm⟩,fun h=>by omega⟩
  rw [rc e]
  refine decide_eq_decide.2 ⟨fun ⟨h,j,hj,hx⟩=>⟨h,j,by omega,hx⟩,fun ⟨h,j,hj,hx⟩=>⟨h,j,?_,hx⟩⟩
  rcases af4 j i with h2|h2
  · exact h2
  obtain rfl:j=i:=by omega
  exact absurd hx.symm e
omit cS r yu h1 h64 hk in
theorem S' {p:List Int} (ho:zF p) {i:Nat} (hi:i<afE p):qA afK (GW p i) p[i]! =afK:=by
 rw [GX];refine decide_eq_false fun ⟨h0,j,hj,e⟩=>?_
 have:=ho j i hj hi e
 omega
theorem pK (ho:zF p):kV ⟨f⟩ t p=afF (⟨p,bR f t p⟩,0):=by
 have R:=ew (f:=f) (t:=t) (p:=p) h1;have bl:=R.1;have w1:aa .i64 (((afE p):Int) -1)=((afE p-1:Nat):Int):=mT (by omega) h1
 have loop: ∀n:Nat,n<=(bR f t p).length->az ia ((n:Int) -1,f,t.1,t.2,p,o5 (bR f t p) n)=afF (.done (⟨p,bR f t p⟩,0)):=by
  intro n
  induction n with
  |zero=>
   intro _;refine aH ?_;unfold ia;rw [aC (by omega),ol]
   rfl
  |succ n ih=>
   intro hn;have st:=Ko cS r yu h1 h64 hk (t:=t) ho (i:=n) (by omega)
   rw [show ((n+1:Nat):Int) -1=(n:Int) by omega,ba st]
   exact ih (by omega)
 have fc:dm ⟨f⟩=afF 0:=by rw [fQ];exact congrArg afF (dP.2 cS)
 unfold kV uB;simp only [fc,aj,bn (rfl:(0:Int)=0),ol,fN yu,pp r,ay,aC (show¬((afE p):Int)<1 by omega),aC (show¬(64:Int)<((afE p):Int) by omega),Df cS r yu h1 h64 hk,IR]
 have st:=bF (body:=mi 0 p) (fun i=>(p,((afE p):Int),(i:Int),f,t.1,t.2,GW p i)) (afE p) (fun i hi=>by
  unfold mi;simp only [aD (show (i:Int)<((afE p):Int) by omega),lw,ar p i hi,aj,S' ho hi,UV,IR,ol,aR (show i<1000000000 by omega)]
  rfl)
 refine (show _=_ from st).trans (aH ?_);unfold mi;simp only [aC (show¬((afE p):Int)<((afE p):Int) by omega),ol,bn (rfl:(0:Int)=0),aZ (show (afE p)<=1048576 by omega),aj,ay,w1,ei rfl,lw,Gr (0:Int) (show (afE p)-1<=1048576 by omega),v6]
 have:=loop (bR f t p).length (afc _)
 unfold o5 at this;rw [af2,afk,show (bR f t p).length=afE p-1 by omega] at this
 rw [jb (n:=((afE p-1:Nat):Int) -1) ⟨by omega,by omega⟩]
 exact this
end
end Go.Proofs.YtbgoiokedpjgbaaGreat
