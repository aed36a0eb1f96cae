/- Plain laws (4). -/
import Derived.Test.YthljmpcakagceaaGreatBQM3
import Derived.Test.YthljmpcakagceaaGreatBQS2
import Derived.Test.YthljmpcakagceaaGreatBVm3
namespace Go.Proofs.YthljmpcakagceaaGreat
open Go.Vm Classical
end Go.Proofs.YthljmpcakagceaaGreat
namespace Go.Proofs.YthljmpcakagceaaGreat
open Go.Vm Classical
end Go.Proofs.YthljmpcakagceaaGreat
namespace Go.Proofs.YthljmpcakagceaaGreat
open Go.Vm Classical
theorem Q0 (p q:Pt) (t:Int×Int):ON p q t=(p.2.1*t.2+p.2.2*t.1) - (q.2.1*t.2+q.2.2*t.1):=by
 rw [aJC,Int.sub_mul,Int.sub_mul];omega
theorem UG {p q r:Pt} {t:Int×Int} (h1:iL p q t) (h2:iL q r t):iL p r t:=by
 unfold iL at*;rw [Q0] at*;generalize p.2.1*t.2+p.2.2*t.1=a at*;generalize q.2.1*t.2+q.2.2*t.1=b at*;generalize r.2.1*t.2+r.2.2*t.1=c at*;omega
theorem UH {p q:Pt} (t:Int×Int) (h:p.1≠q.1) (hn: ¬iL p q t):iL q p t:=by
 unfold iL at*;rw [Q0] at*;generalize p.2.1*t.2+p.2.2*t.1=a at*;generalize q.2.1*t.2+q.2.2*t.1=b at*;omega
end Go.Proofs.YthljmpcakagceaaGreat
namespace Go.Proofs.YthljmpcakagceaaGreat
open Go.Vm Classical
theorem UI {f:List Pt} (fok:bQ f) {k:Nat} (hk:k<f.length):lR ⟨f⟩ (f[k]!).1=some ((k:Int),0):=by
 have h1:=fok.1;have hc:dE ⟨f⟩=some 0:=by rw [gE];exact congrArg some (fO.2 fok)
 have bs:=yC f (f[k]!).1 (by omega) (fun i j=>jP fok.2.2)
 unfold lR kC;rw [G8];simp only [hc,aB,show ((0:Int) !=0)=false from rfl,cond_false,bs.1 k hk rfl,Bool.not_true]
theorem NM {f:List Pt} (fok:bQ f) {id:Int} (h: ¬vO f id):lR ⟨f⟩ id=some (0,6):=by
 have h1:=fok.1;have hc:dE ⟨f⟩=some 0:=by rw [gE];exact congrArg some (fO.2 fok)
 have bs:=yC f id (by omega) (fun i j=>jP fok.2.2)
 obtain ⟨m,_,_,_,e⟩:=bs.2 (fun k hk he=>h ⟨k,hk,he⟩)
 unfold lR kC;rw [G8];simp only [hc,aB,show ((0:Int) !=0)=false from rfl,cond_false,e,Bool.not_false,cond_true]
end Go.Proofs.YthljmpcakagceaaGreat
namespace Go.Proofs.YthljmpcakagceaaGreat
open Go.Vm Classical
def HH (f:List Pt) (m:Nat) (p:Pt):List Pt:=f.take m++p::f.drop m
structure Y8 (f:List Pt) (p:Pt) (m:Nat):Prop where
 le:m<=f.length
 lo: ∀i,i<m->(f[i]!).1<p.1
 hi: ∀i,m<=i->i<f.length->p.1<(f[i]!).1
theorem UJ {f:List Pt} {m:Nat} (h:m<=f.length) (p:Pt):(HH f m p).length=f.length+1:=by
 unfold HH;rw [List.length_append,List.length_cons,List.length_take,List.length_drop];omega
theorem O1 {f:List Pt} {m:Nat} (h:m<=f.length) (p:Pt) (i:Nat):(HH f m p)[i]! =if i<m then f[i]! else if i=m then p else f[i-1]!:=by
 have ht:(f.take m).length=m:=by rw [List.length_take];omega
 unfold HH;simp only [List.getElem!_eq_getElem?_getD]
 by_cases h1:i<m
 · rw [if_pos h1,List.getElem?_append_left (by omega),List.getElem?_take_of_lt h1]
 · rw [if_neg h1,List.getElem?_append_right (by omega),ht]
   by_cases h2:i=m
   · rw [if_pos h2,h2,Nat.sub_self];rfl
   · rw [if_neg h2,show i-m=(i-1-m)+1 by omega,List.getElem?_cons_succ,List.getElem?_drop,show m+(i-1-m)=i-1 by omega]
theorem aJF {f:List Pt} (fok:bQ f) {p:Pt} (po:gK p) {m:Nat} (h:Y8 f p m) (hl:f.length<64):bQ (HH f m p):=by
 refine ⟨by rw [UJ h.le];omega,fun q hq=>?_,fun i hi=>?_⟩
 · rcases List.mem_append.1 hq with hq|hq
   · exact fok.2.1 q (List.mem_of_mem_take hq)
   · rcases List.mem_cons.1 hq with rfl|hq
     · exact po
     · exact fok.2.1 q (List.mem_of_mem_drop hq)
 · rw [UJ h.le] at hi
   rw [O1 h.le,O1 h.le];rcases Nat.lt_trichotomy (i+1) m with c|c|c
   · rw [if_pos (by omega),if_pos c];exact jP fok.2.2 (by omega) (by have:=h.le;omega)
   · rw [if_pos (by omega),if_neg (by omega),if_pos c];exact h.lo i (by omega)
   · rw [if_neg (show¬i+1<m by omega),if_neg (show¬i+1=m by omega),Nat.add_sub_cancel]
     by_cases d:i=m
     · rw [if_neg (by omega),if_pos d];exact h.hi i (by omega) (by omega)
     · rw [if_neg (by omega),if_neg d];exact jP fok.2.2 (by omega) (by omega)
theorem WR {f:List Pt} (fok:bQ f) {p:Pt} (h: ¬vO f p.1): ∃m,Y8 f p m/\kC ⟨f⟩ p.1=some ((m:Int),false):=by
 have h1:=fok.1;obtain ⟨m,a,b,c,e⟩:=(yC f p.1 (by omega) (fun i j=>jP fok.2.2)).2 (fun k hk he=>h ⟨k,hk,he⟩)
 refine ⟨m,⟨a,b,c⟩,?_⟩;unfold kC;rw [G8,e];rfl
theorem WT {f:List Pt} (fok:bQ f) {id:Int} (h:vO f id): ∃k,k<f.length/\(f[k]!).1=id/\kC ⟨f⟩ id=some ((k:Int),true):=by
 have h1:=fok.1;obtain ⟨k,hk,he⟩:=h;refine ⟨k,hk,he,?_⟩;unfold kC;rw [G8,(yC f id (by omega) (fun i j=>jP fok.2.2)).1 k hk he];rfl
theorem aJG {f:List Pt} (fok:bQ f) {p:Pt} {m:Nat} (h:Y8 f p m) (hl:f.length<64):aH fH (false,0,f,p.1,p.2.1,p.2.2,[])=some (⟨HH f m p⟩,0):=by
 have hle:=h.le;have tl: ∀i,(f.take i).length<=64:=fun i=>by rw [List.length_take];omega
 have k1:=bV (body:=fH) (fun i=>(false,(i:Int),f,p.1,p.2.1,p.2.2,f.take i)) m (fun i hi=>by
  unfold fH;simp only [aF,aN (show (i:Int)<(f.length:Int) by omega),cond_true,Bool.not_false,aD f i (by omega),aB,aL (show¬p.1<(f[i]!).1 from Int.not_lt.2 (Int.le_of_lt (h.lo i hi))),cond_false,
   cD (show (f.take i).length+[f[i]!].length<=1048576 by have:=tl i;simp only [List.length_cons,List.length_nil];omega),aX (show i<1000000000 by omega),gF (show i<f.length by omega)])
 refine (show aH fH (false,0,f,p.1,p.2.1,p.2.2,[])=_ from k1).trans ?_;have pe:((p.1,p.2.1,p.2.2):Pt)=p:=rfl;rcases Nat.lt_or_ge m f.length with hm|hm
 · have s1:fH (false,(m:Int),f,p.1,p.2.1,p.2.2,f.take m)=some (.next (true,((m+1:Nat):Int),f,p.1,p.2.1,p.2.2,f.take m++[p]++[f[m]!])):=by
    unfold fH;simp only [aF,aN (show (m:Int)<(f.length:Int) by omega),cond_true,Bool.not_false,aD f m hm,aB,aN (h.hi m (Nat.le_refl _) hm),pe,
     cD (show (f.take m).length+[p].length<=1048576 by have:=tl m;simp only [List.length_cons,List.length_nil];omega),
     cD (show (f.take m++[p]).length+[f[m]!].length<=1048576 by have:=tl m;simp only [List.length_append,List.length_cons,List.length_nil];omega),aX (show m<1000000000 by omega)]
   rw [aW s1];have k2:=bV (body:=fH) (fun i=>(true,((m+1+i:Nat):Int),f,p.1,p.2.1,p.2.2,f.take m++[p]++(f.drop m).take (i+1))) (f.length- (m+1)) (fun i hi=>by
    have ed:(f.drop m).take (i+1+1)=(f.drop m).take (i+1)++[f[m+1+i]!]:=by
     rw [gF (show i+1<(f.drop m).length by rw [List.length_drop];omega),sI];congr 3;omega
    unfold fH;simp only [aF,aN (show ((m+1+i:Nat):Int)<(f.length:Int) by omega),cond_true,Bool.not_true,cond_false,aD f (m+1+i) (by omega),aB,
     cD (show (f.take m++[p]++(f.drop m).take (i+1)).length+[f[m+1+i]!].length<=1048576 by have:=tl m;simp only [List.length_append,List.length_take,List.length_drop,List.length_cons,List.length_nil] at this ⊢;omega),aX (show m+1+i<1000000000 by omega),ed]
    rw [List.append_assoc (f.take m++[p]),show m+1+i+1=m+1+(i+1) by omega])
   have e0:(f.drop m).take (0+1)=[f[m]!]:=by
    have:=TL hm
    rw [show f.drop m=f[m]!::f.drop (m+1) by rw [getElem!_pos f m hm,List.getElem_cons_drop]];rfl
   rw [e0] at k2;refine (show aH fH (true,((m+1:Nat):Int),f,p.1,p.2.1,p.2.2,f.take m++[p]++[f[m]!])=_ from k2).trans (aJ ?_);have ef:(f.drop m).take (f.length- (m+1)+1)=f.drop m:=List.take_of_length_le (by rw [List.length_drop];omega)
   rw [ef,show m+1+(f.length- (m+1))=f.length by omega]
   unfold fH HH;simp only [aF,aL (show¬(f.length:Int)<(f.length:Int) by omega),cond_false,Bool.not_true,List.append_assoc,List.singleton_append]
 · obtain rfl:m=f.length:=by omega
   refine aJ ?_;unfold fH HH;simp only [aF,aL (show¬(f.length:Int)<(f.length:Int) by omega),cond_false,Bool.not_false,cond_true,pe,List.take_length,
    cD (show f.length+[p].length<=1048576 by simp only [List.length_cons,List.length_nil];omega),aB,List.drop_length]
theorem M9 {f:List Pt} (fok:bQ f) (p:Pt):
 (∃e:Int,e≠0/\mV ⟨f⟩ p=some (⟨[]⟩,e)/\mX ⟨f⟩ p=some (⟨[]⟩,e))\/
 (∃m,Y8 f p m/\ ¬vO f p.1/\gK p/\f.length<64/\mV ⟨f⟩ p=some (⟨HH f m p⟩,0)/\mX ⟨f⟩ p=some (⟨HH f m p⟩,0)):=by
 have f1:=fok.1;have hc:dE ⟨f⟩=some 0:=by rw [gE];exact congrArg some (fO.2 fok)
 have hc2:lT ⟨f⟩=some 0:=by rw [wW];exact congrArg some (fO.2 fok)
 by_cases po:gK p
 case neg=>
  refine .inl ⟨8,by decide,?_,?_⟩
  · unfold mV;rw [hc,aB,bP rfl,cond_false,fI,if_neg po];rfl
  · unfold mX;rw [hc2,aB,bP rfl,cond_false,hJ,if_neg po];rfl
 by_cases hp:vO f p.1
 · obtain ⟨k,hk,he,e⟩:=WT fok hp
   refine .inl ⟨14,by decide,?_,?_⟩
   · unfold mV;rw [hc,aB,bP rfl,cond_false,fI,if_pos po,aB,bP rfl,cond_false,e];rfl
   · unfold mX;rw [hc2,aB,bP rfl,cond_false,hJ,if_pos po,aB,bP rfl,cond_false,IS fok.2.2 (by omega) hk he,aB,aN (show (0:Int)<=(k:Int) by omega)];rfl
 obtain ⟨m,hm,e⟩:=WR fok hp
 by_cases full:f.length=64
 · refine .inl ⟨18,by decide,?_,?_⟩
   · unfold mV;rw [hc,aB,bP rfl,cond_false,fI,if_pos po,aB,bP rfl,cond_false,e,aB,cond_false]
     simp only [aF,full];rfl
   · unfold mX;rw [hc2,aB,bP rfl,cond_false,hJ,if_pos po,aB,bP rfl,cond_false,M4 fok hp,aB,aL (by decide),cond_false]
     simp only [aF,full];rfl
 · have hl:f.length<64:=by omega
   have hf:(Int.ofNat f.length==64)=false:=by simp only [aF,beq_eq_false_iff_ne];omega
   refine .inr ⟨m,hm,hp,po,hl,?_,?_⟩
   · have hi:DL f (m:Int) [p]=some (HH f m p):=by
      unfold DL;rw [if_pos ⟨by omega,by have:=hm.le;simpa using this,rfl,by omega⟩]
      simp [HH]
     unfold mV;rw [hc,aB,bP rfl,cond_false,fI,if_pos po,aB,bP rfl,cond_false,e,aB,cond_false,hf,cond_false,aY (show f.length<=1048576 by omega),aB,hi,aB]
   · unfold mX
     rw [hc2,aB,bP rfl,cond_false,hJ,if_pos po,aB,bP rfl,cond_false,M4 fok hp,aB,aL (by decide),cond_false,hf,cond_false]
     exact aJG fok hm hl
theorem aPq {f:List Pt} (fok:bQ f) {p:Pt} (po:gK p) {k:Nat} (hk:k<f.length) (he:(f[k]!).1=p.1):bQ (f.set k p):=by
 refine ⟨by rw [List.length_set];exact fok.1,fun q hq=>?_,fun i hi=>?_⟩
 · rcases List.mem_or_eq_of_mem_set hq with h|rfl
   · exact fok.2.1 q h
   · exact po
 · rw [List.length_set] at hi
   have h:=jP fok.2.2 (show i<i+1 by omega) hi
   have g: ∀j:Nat,((f.set k p)[j]!).1=(f[j]!).1:=fun j=>by
    simp only [List.getElem!_eq_getElem?_getD,List.getElem?_set]
    by_cases c:k=j
    · subst c
      rw [if_pos rfl,if_pos hk];simp only [List.getElem!_eq_getElem?_getD] at he;exact he.symm
    · rw [if_neg c]
   rw [g,g];exact h
theorem HI {f:List Pt} (fok:bQ f) (p:Pt):
 (∃e:Int,e≠0/\iQ ⟨f⟩ p=some (⟨[]⟩,e)/\iR ⟨f⟩ p=some (⟨[]⟩,e))\/
 (∃k,k<f.length/\(f[k]!).1=p.1/\gK p/\iQ ⟨f⟩ p=some (⟨f.set k p⟩,0)/\iR ⟨f⟩ p=some (⟨f.set k p⟩,0)):=by
 have f1:=fok.1;have hc:dE ⟨f⟩=some 0:=by rw [gE];exact congrArg some (fO.2 fok)
 have hc2:lT ⟨f⟩=some 0:=by rw [wW];exact congrArg some (fO.2 fok)
 by_cases po:gK p
 case neg=>
  refine .inl ⟨8,by decide,?_,?_⟩
  · unfold iQ;rw [hc,aB,bP rfl,cond_false,fI,if_neg po];rfl
  · unfold iR;rw [hc2,aB,bP rfl,cond_false,hJ,if_neg po];rfl
 by_cases hp:vO f p.1
 case neg=>
  refine .inl ⟨6,by decide,?_,?_⟩
  · unfold iQ;rw [hc,aB,bP rfl,cond_false,fI,if_pos po,aB,bP rfl,cond_false,NM fok hp];rfl
  · unfold iR;rw [hc2,aB,bP rfl,cond_false,hJ,if_pos po,aB,bP rfl,cond_false,M4 fok hp];rfl
 obtain ⟨k,hk,he⟩:=hp;have pl:=UI fok hk;rw [he] at pl;refine .inr ⟨k,hk,he,po,?_,?_⟩
 · unfold iQ
   rw [hc,aB,bP rfl,cond_false,fI,if_pos po,aB,bP rfl,cond_false,pl,aB,bP rfl,cond_false,aY (show f.length<=1048576 by omega),aB,aD f k hk,aB,lI]
 · unfold iR lZ
   rw [hc2,aB,bP rfl,cond_false,hJ,if_pos po,aB,bP rfl,cond_false,IS fok.2.2 (by omega) hk he,aB,aL (by omega),cond_false,aY (show f.length<=1048576 by omega),aB,aB,aD f k hk,aB,lI]
end Go.Proofs.YthljmpcakagceaaGreat
namespace Go.Proofs.YthljmpcakagceaaGreat
abbrev Nd:=Int×Int×Int
structure BZ (P:Nat->Nat->Prop) (a b i:Nat):Prop where
 lo:a<=i
 hi:i<b
 top: ∀j,a<=j->j<b->j≠i->P i j
inductive mP (P:Nat->Nat->Prop) (N:List Nd):Nat->Nat->Int->Prop
 |nil {a b:Nat} (h:b<=a):mP P N a b (-1)
 |node {a b i:Nat} (h:BZ P a b i) (l:mP P N a i (N[i]!).2.1) (r:mP P N (i+1) b (N[i]!).2.2):mP P N a b (i:Int)
structure aCN (P:Nat->Nat->Prop) (n:Nat):Prop where
 tr: ∀i j k,i<n->j<n->k<n->P i j->P j k->P i k
 asy: ∀i j,i<n->j<n->P i j-> ¬P j i
 tot: ∀i j,i<n->j<n->i≠j-> ¬P i j->P j i
theorem BZ.one {P:Nat->Nat->Prop} {n a b i j:Nat} (o:aCN P n) (hb:b<=n) (h:BZ P a b i) (k:BZ P a b j):i=j:=by
 refine Classical.byContradiction fun hne=>?_
 have:=h.hi;have:=k.hi
 exact o.asy i j (by omega) (by omega) (h.top j k.lo k.hi (fun e=>hne e.symm)) (k.top i h.lo h.hi hne)
theorem mP.link {P:Nat->Nat->Prop} {N:List Nd} {a b:Nat} {r:Int} (h:mP P N a b r):(b<=a/\r= -1)\/(∃i:Nat,r=(i:Int)/\a<=i/\i<b):=by
 cases h with
 |nil h=>exact .inl ⟨h,rfl⟩
 |node h l r=>exact .inr ⟨_,rfl,h.lo,h.hi⟩
theorem mP.unique {P:Nat->Nat->Prop} {n:Nat} (o:aCN P n) {N N':List Nd} {a b:Nat} {r:Int} (h:mP P N a b r): ∀{r':Int},b<=n->mP P N' a b r'->r=r'/\ ∀k,a<=k->k<b->(N[k]!).2=(N'[k]!).2:=by
 induction h with
 |nil h=>
  intro r' hb h';cases h' with
  |nil _=>exact ⟨rfl,fun k h1 h2=>by omega⟩
  |node t _ _=>have:=t.lo;have:=t.hi;omega
 | @node a b i h l r ihl ihr=>
  intro r' hb h';have lo:=h.lo;have hi:=h.hi;cases h' with
  |nil q=>omega
  | @node _ _ j t l' r'=>
   have e:=h.one o hb t;subst e;obtain ⟨e1,f1⟩:=ihl (by omega) l'
   obtain ⟨e2,f2⟩:=ihr hb r';refine ⟨rfl,fun k h1 h2=>?_⟩
   rcases Nat.lt_trichotomy k i with q|q|q
   · exact f1 k h1 q
   · subst q;exact Prod.ext e1 e2
   · exact f2 k (by omega) h2
theorem mP.frame {P:Nat->Nat->Prop} {N N':List Nd} {a b:Nat} {r:Int} (h:mP P N a b r):(∀k,a<=k->k<b->(N[k]!).2=(N'[k]!).2)->mP P N' a b r:=by
 induction h with
 |nil h=>exact fun _=> .nil h
 | @node a b i h l r ihl ihr=>
  intro f;have lo:=h.lo;have hi:=h.hi;have e:=f i lo hi;refine .node h ?_ ?_
  · rw [<- e];exact ihl fun k h1 h2=>f k h1 (by omega)
  · rw [<- e];exact ihr fun k h1 h2=>f k (by omega) h2
theorem mP.other {P Q:Nat->Nat->Prop} {n:Nat} (o:aCN Q n) {N:List Nd} {a b:Nat} {r:Int} (h:mP P N a b r):b<=n->(∀k j:Nat,a<=k->k<b->a<=j->j<b->((N[k]!).2.1=(j:Int)\/(N[k]!).2.2=(j:Int))->Q k j)->mP Q N a b r:=by
 induction h with
 |nil h=>exact fun _ _=> .nil h
 | @node a b i h l r ihl ihr=>
  intro hb q;have lo:=h.lo;have hi:=h.hi;have tl:=ihl (by omega) fun k j h1 h2 h3 h4=>q k j h1 (by omega) h3 (by omega)
  have tr:=ihr hb fun k j h1 h2 h3 h4=>q k j (by omega) h2 (by omega) h4
  refine .node ⟨lo,hi,fun j h1 h2 hne=>?_⟩ tl tr
  rcases Nat.lt_or_ge j i with hj|hj
  · generalize hr:(N[i]!).2.1=s at tl
    cases tl with
    |nil q=>omega
    | @node _ _ m t _ _=>
     have t1:=t.lo;have t2:=t.hi;have qm:=q i m lo hi t1 (by omega) (.inl hr)
     by_cases e:j=m
     · rw [e];exact qm
     · exact o.tr i m j (by omega) (by omega) (by omega) qm (t.top j h1 hj e)
  · generalize hr:(N[i]!).2.2=s at tr
    cases tr with
    |nil q=>omega
    | @node _ _ m t _ _=>
     have t1:=t.lo;have t2:=t.hi;have qm:=q i m lo hi (by omega) t2 (.inr hr)
     by_cases e:j=m
     · rw [e];exact qm
     · exact o.tr i m j (by omega) (by omega) (by omega) qm (t.top j (by omega) h2 e)
theorem mP.kids {P:Nat->Nat->Prop} {N:List Nd} {a b:Nat} {r:Int} (h:mP P N a b r): ∀k,a<=k->k<b-> ∀c:Int,((N[k]!).2.1=c\/(N[k]!).2.2=c)->c= -1\/ ∃j:Nat,c=(j:Int)/\a<=j/\j<b/\j≠k/\P k j/\r≠c:=by
 induction h with
 |nil h=>intro k h1 h2;omega
 | @node a b i h l r ihl ihr=>
  have lo:=h.lo;have hi:=h.hi;intro k h1 h2 c hc;rcases Nat.lt_trichotomy k i with q|q|q
  · rcases ihl k h1 q c hc with e|⟨j,e,j1,j2,j3,j4,_⟩
    · exact .inl e
    · exact .inr ⟨j,e,j1,by omega,j3,j4,by rw [e];omega⟩
  · subst q
    rcases hc with hc|hc
    · rcases l.link with ⟨_,e⟩|⟨j,e,j1,j2⟩
      · exact .inl (hc▸e)
      · exact .inr ⟨j,hc▸e,j1,by omega,by omega,h.top j j1 (by omega) (by omega),by rw [<- hc,e];omega⟩
    · rcases r.link with ⟨_,e⟩|⟨j,e,j1,j2⟩
      · exact .inl (hc▸e)
      · exact .inr ⟨j,hc▸e,by omega,j2,by omega,h.top j (by omega) j2 (by omega),by rw [<- hc,e];omega⟩
  · rcases ihr k (by omega) h2 c hc with e|⟨j,e,j1,j2,j3,j4,_⟩
    · exact .inl e
    · exact .inr ⟨j,e,by omega,j2,j3,j4,by rw [e];omega⟩
theorem mP.up {P:Nat->Nat->Prop} {N:List Nd} {a b:Nat} {r:Int} (h:mP P N a b r): ∀k:Nat,a<=k->k<b->(k:Int)≠r-> ∃j,a<=j/\j<b/\((N[j]!).2.1=(k:Int)\/(N[j]!).2.2=(k:Int))/\ ∀m,a<=m->m<b->((N[m]!).2.1=(k:Int)\/(N[m]!).2.2=(k:Int))->m=j:=by
 induction h with
 |nil h=>intro k h1 h2;omega
 | @node a b i h l r ihl ihr=>
  have lo:=h.lo;have hi:=h.hi;have lk:=l.kids;have rk:=r.kids;intro k h1 h2 hne;have hki:k≠i:=fun e=>hne (by rw [e])
  rcases Nat.lt_or_ge k i with q|q
  · by_cases er:(k:Int)=(N[i]!).2.1
    · refine ⟨i,lo,hi,.inl er.symm,fun m m1 m2 hm=>?_⟩
      rcases Nat.lt_trichotomy m i with w|w|w
      · rcases lk m m1 w _ hm with e|⟨j,e,_,_,_,_,hr⟩
        · omega
        · exact absurd er.symm hr
      · exact w
      · rcases rk m (by omega) m2 _ hm with e|⟨j,e,j1,_⟩<;>omega
    · obtain ⟨j,j1,j2,j3,j4⟩:=ihl k h1 q er
      refine ⟨j,j1,by omega,j3,fun m m1 m2 hm=>?_⟩
      rcases Nat.lt_trichotomy m i with w|w|w
      · exact j4 m m1 w hm
      · subst w
        rcases hm with hm|hm
        · exact absurd hm.symm er
        · rcases r.link with ⟨_,e⟩|⟨p,e,p1,p2⟩<;>omega
      · rcases rk m (by omega) m2 _ hm with e|⟨p,e,p1,_⟩<;>omega
  · by_cases er:(k:Int)=(N[i]!).2.2
    · refine ⟨i,lo,hi,.inr er.symm,fun m m1 m2 hm=>?_⟩
      rcases Nat.lt_trichotomy m i with w|w|w
      · rcases lk m m1 w _ hm with e|⟨j,e,_,j2,_⟩<;>omega
      · exact w
      · rcases rk m (by omega) m2 _ hm with e|⟨j,e,_,_,_,_,hr⟩
        · omega
        · exact absurd er.symm hr
    · obtain ⟨j,j1,j2,j3,j4⟩:=ihr k (by omega) h2 er
      refine ⟨j,by omega,j2,j3,fun m m1 m2 hm=>?_⟩
      rcases Nat.lt_trichotomy m i with w|w|w
      · rcases lk m m1 w _ hm with e|⟨p,e,_,p2,_⟩<;>omega
      · subst w
        rcases hm with hm|hm
        · rcases l.link with ⟨_,e⟩|⟨p,e,p1,p2⟩<;>omega
        · exact absurd hm.symm er
      · exact j4 m (by omega) m2 hm
end Go.Proofs.YthljmpcakagceaaGreat
namespace Go.Proofs.YthljmpcakagceaaGreat
inductive yD (P:Nat->Nat->Prop) (N:List Nd):Nat->Nat->Int->List Nat->Prop
 |nil {a b:Nat} (h:b<=a):yD P N a b (-1) []
 |cons {a b k:Nat} {es:List Nat} (h:BZ P a b k) (l:mP P N a k (N[k]!).2.1) (r:yD P N (k+1) b (N[k]!).2.2 es):yD P N a b (k:Int) (k::es)
theorem yD.tree {P:Nat->Nat->Prop} {N:List Nd} {a b:Nat} {r:Int} {es:List Nat} (h:yD P N a b r es):mP P N a b r:=by
 induction h with
 |nil h=>exact .nil h
 |cons h l r ih=>exact .node h l ih
theorem yD.mem {P:Nat->Nat->Prop} {N:List Nd} {a b:Nat} {r:Int} {es:List Nat} (h:yD P N a b r es): ∀e∈es,a<=e/\e<b:=by
 induction h with
 |nil h=>intro e he;cases he
 |cons h l r ih=>
  intro e he;have lo:=h.lo;have hi:=h.hi;rcases List.mem_cons.1 he with rfl|he
  · exact ⟨lo,hi⟩
  · have:=ih e he;omega
theorem gG {α:Type} [Inhabited α] (x:α) (l:List α) (i:Nat):(x::l)[i+1]! =l[i]!:=by simp
theorem nZ {α:Type} [Inhabited α] (x:α) (l:List α):(x::l)[0]! =x:=by simp
theorem yD.chain {P:Nat->Nat->Prop} {N:List Nd} {a b:Nat} {r:Int} {es:List Nat} (h:yD P N a b r es): ∀i j,i<j->j<es.length->P es[i]! es[j]!:=by
 induction h with
 |nil h=>intro i j _ hj;cases hj
 | @cons a b k es h l r ih=>
  intro i j hij hj;cases j with
  |zero=>omega
  |succ j=>
   rw [gG];have hj:j<es.length:=by simpa using hj
   cases i with
   |zero=>
    rw [nZ]
    have:=r.mem es[j]! (bG hj)
    exact h.top _ (by have:=h.lo;omega) this.2 (by omega)
   |succ i=>rw [gG];exact ih i j (by omega) hj
theorem yD.add {P:Nat->Nat->Prop} {N N':List Nd} {n:Nat} (o:aCN P n) {a b:Nat} {r:Int} {es:List Nat} (h:yD P N a b r es): ∀m,a<=b->b<n->m<=es.length->(∀j,j<m->P es[j]! b)->(∀j,m<=j->j<es.length-> ¬P es[j]! b)->
 (N'[b]!).2.1=(if m<es.length then (es[m]!:Int) else -1)->(N'[b]!).2.2= -1->
 (∀k,a<=k->k<b->(N'[k]!).2.1=(N[k]!).2.1/\((0<m/\k=es[m-1]!)->(N'[k]!).2.2=(b:Int))/\(¬(0<m/\k=es[m-1]!)->(N'[k]!).2.2=(N[k]!).2.2))->
 yD P N' a (b+1) (if m=0 then (b:Int) else r) (es.take m++[b]):=by
 induction h with
 | @nil a b h=>
  intro m hab hb hm _ _ hl hr _
  have:m=0:=by simpa using hm
  subst this;rw [if_pos rfl];have hl:(N'[b]!).2.1= -1:=hl;refine .cons ⟨hab,by omega,fun j h1 h2 h3=>by omega⟩ ?_ ?_
  · rw [hl];exact .nil h
  · rw [hr];exact .nil (by omega)
 | @cons a b k es h l r ih=>
  intro m hab hb hm hP hN hl hr hf;have lo:=h.lo;have hi:=h.hi;cases m with
  |zero=>
   rw [if_pos rfl];have hl:(N'[b]!).2.1=(k:Int):=by rw [hl,if_pos (by simp)];rfl
   have t:mP P N a b (k:Int):= .node h l r.tree;have nk: ¬P k b:=hN 0 (Nat.le_refl _) (by simp)
   have kb:P b k:=o.tot k b (by omega) hb (by omega) nk
   refine .cons ⟨hab,by omega,fun j h1 h2 h3=>?_⟩ ?_ ?_
   · by_cases e:j=k
     · rw [e];exact kb
     · exact o.tr b k j hb (by omega) (by omega) kb (h.top j h1 (by omega) e)
   · rw [hl]
     refine t.frame fun j h1 h2=>?_
     obtain ⟨f1,_,f3⟩:=hf j h1 h2;exact Prod.ext f1.symm (f3 (by omega)).symm
   · rw [hr];exact .nil (by omega)
  |succ m=>
   rw [if_neg (by omega)]
   have hm:m<=es.length:=by simpa using hm
   have pk:P k b:=by have:=hP 0 (by omega);rwa [nZ] at this
   have mem:=r.mem;have top:BZ P a (b+1) k:=⟨lo,by omega,fun j h1 h2 h3=>by
    by_cases e:j=b
    · rw [e];exact pk
    · exact h.top j h1 (by omega) h3⟩
   have lt:mP P N' a k (N'[k]!).2.1:=by
    rw [(hf k lo hi).1];refine l.frame fun j h1 h2=>?_
    obtain ⟨f1,_,f3⟩:=hf j h1 (by omega)
    refine Prod.ext f1.symm (f3 (fun q=>?_)).symm
    have q2:=q.2;cases m with
    |zero=>rw [show 0+1-1=0 from rfl,nZ] at q2;omega
    |succ m=>
     rw [show m+1+1-1=m+1 from rfl,gG] at q2
     have:=mem es[m]! (bG (by omega));omega
   have rt:=ih m (by omega) hb hm (fun j hj=>by have:=hP (j+1) (by omega);rwa [gG] at this) (fun j h1 h2=>by have:=hN (j+1) (by omega) (by simpa using h2);rwa [gG] at this)
    (by
     rw [hl]
     by_cases q:m<es.length
     · rw [if_pos q,if_pos (by simpa using q),gG]
     · rw [if_neg q,if_neg (by simpa using q)]) hr (fun j h1 h2=>by
     obtain ⟨f1,f2,f3⟩:=hf j (by omega) h2
     refine ⟨f1,fun q=>f2 ⟨by omega,?_⟩,fun q=>f3 (fun w=>q ?_)⟩
     · obtain ⟨q1,q2⟩:=q
       rw [show m+1-1=(m-1)+1 by omega,gG];exact q2
     · obtain ⟨_,w2⟩:=w
       cases m with
       |zero=>rw [show 0+1-1=0 from rfl,nZ] at w2;omega
       |succ m=>rw [show m+1+1-1=m+1 from rfl,gG] at w2;exact ⟨by omega,w2⟩)
   rw [show (k::es).take (m+1)++[b]=k::(es.take m++[b]) from rfl];refine .cons top lt ?_;obtain ⟨_,f2,f3⟩:=hf k lo hi
   by_cases m0:m=0
   · subst m0
     rw [if_pos rfl] at rt;rw [f2 ⟨by omega,by rw [show 0+1-1=0 from rfl,nZ]⟩]
     exact rt
   · rw [if_neg m0] at rt
     rw [f3 (fun w=>?_)]
     · exact rt
     · have w2:=w.2
       rw [show m+1-1=(m-1)+1 by omega,gG] at w2
       have:=mem es[m-1]! (bG (by omega));omega
end Go.Proofs.YthljmpcakagceaaGreat
namespace Go.Proofs.YthljmpcakagceaaGreat
open Go.Vm Classical
def NN (f:List Pt) (t:Int×Int) (i j:Nat):Prop:=iL f[i]! f[j]! t
theorem UK {p q:Pt} {t:Int×Int} (h:iL p q t): ¬iL q p t:=by
 unfold iL at*;rw [Q0] at*;generalize p.2.1*t.2+p.2.2*t.1=a at*;generalize q.2.1*t.2+q.2.2*t.1=b at*;omega
theorem Q1 {f:List Pt} (h:lL f) (t:Int×Int):aCN (NN f t) f.length where
 tr:=fun _ _ _ _ _ _ h1 h2=>UG h1 h2
 asy:=fun _ _ _ _ h=>UK h
 tot:=fun i j hi hj hne hn=>UH t (fun e=>hne (wX h hi hj e)) hn
structure hO (f:List Pt) (t:Int×Int) (N:List Nd) (r:Int):Prop where
 len:N.length=f.length
 ids: ∀k,k<f.length->(N[k]!).1=(f[k]!).1
 tree:mP (NN f t) N 0 f.length r
theorem hO.same {f:List Pt} (h:lL f) {t:Int×Int} {N N':List Nd} {r r':Int} (a:hO f t N r) (b:hO f t N' r'):N=N'/\r=r':=by
 obtain ⟨e1,e2⟩:=a.tree.unique (Q1 h t) (Nat.le_refl _) b.tree;refine ⟨C3 (by rw [a.len,b.len]) fun k hk=>?_,e1⟩
 have hk:k<f.length:=by rw [<- a.len];exact hk
 exact Prod.ext (by rw [a.ids k hk,b.ids k hk]) (e2 k (Nat.zero_le _) hk)
def Below (N:List Nd) (k j:Nat):Prop:=(N[j]!).2.1=(k:Int)\/(N[j]!).2.2=(k:Int)
noncomputable def mQ (N:List Nd) (k:Nat):Nat:=if h: ∃j,j<N.length/\Below N k j then h.choose else N.length
noncomputable def EX (N:List Nd) (k:Nat):List (Int×Int):=if mQ N k<N.length then [((N[k]!).1,(N[mQ N k]!).1)] else []
noncomputable def bS (N:List Nd):Nat->List (Int×Int)
 |0=>[]
 |k+1=>bS N k++EX N k
theorem oA (N:List Nd): ∀k,(bS N k).length<=k
 |0=>Nat.le_refl _
 |k+1=>by
  have:=oA N k
  rw [bS,List.length_append];unfold EX;split
  · simp only [List.length_singleton];omega
  · simp only [List.length_nil];omega
theorem FW {N:List Nd}: ∀{n:Nat} {e:Int×Int},e∈bS N n↔ ∃k,k<n/\mQ N k<N.length/\e=((N[k]!).1,(N[mQ N k]!).1)
 |0,e=>by
  constructor
  · intro h;cases h
  · rintro ⟨k,h,_⟩;omega
 |n+1,e=>by
  rw [bS,List.mem_append,FW];constructor
  · rintro (⟨k,h1,h2⟩|h)
    · exact ⟨k,by omega,h2⟩
    · unfold EX at h
      split at h
      · exact ⟨n,by omega,by assumption,List.mem_singleton.1 h⟩
      · cases h
  · rintro ⟨k,h1,h2,h3⟩
    by_cases q:k=n
    · subst q
      right;unfold EX;rw [if_pos h2,h3];exact List.mem_singleton.2 rfl
    · exact .inl ⟨k,by omega,h2,h3⟩
section
variable {f : List Pt} {t : Int × Int} {N : List Nd} {r : Int}
theorem hO.par (h:hO f t N r) {k:Nat} (hk:k<f.length):((k:Int)=r->mQ N k=N.length)/\((k:Int)≠r->mQ N k<N.length/\Below N k (mQ N k)/\mQ N k≠k/\NN f t (mQ N k) k)/\ ∀m,m<N.length->Below N k m->m=mQ N k:=by
 have ln:=h.len
 by_cases hr:(k:Int)=r
 · have none: ¬ ∃j,j<N.length/\Below N k j:=by
    rintro ⟨j,hj,hb⟩;rcases h.tree.kids j (Nat.zero_le _) (by omega) (k:Int) hb with e|⟨_,_,_,_,_,_,e⟩
    · omega
    · exact e hr.symm
   have e:mQ N k=N.length:=by unfold mQ;rw [dif_neg none]
   exact ⟨fun _=>e,fun q=>absurd hr q,fun m hm hb=>absurd ⟨m,hm,hb⟩ none⟩
 · obtain ⟨j,_,j2,j3,j4⟩:=h.tree.up k (Nat.zero_le _) hk hr
   have ex: ∃j,j<N.length/\Below N k j:=⟨j,by omega,j3⟩
   have e:mQ N k=j:=by
    unfold mQ;rw [dif_pos ex]
    have:=ex.choose_spec
    exact j4 _ (Nat.zero_le _) (by omega) this.2
   refine ⟨fun q=>absurd q hr,fun _=>?_,fun m hm hb=>by rw [e];exact j4 m (Nat.zero_le _) (by omega) hb⟩
   rw [e];refine ⟨by omega,j3,?_,?_⟩
   · rcases h.tree.kids j (Nat.zero_le _) j2 (k:Int) j3 with q|⟨i,q,_,_,q2,_⟩
     · omega
     · intro w;omega
   · rcases h.tree.kids j (Nat.zero_le _) j2 (k:Int) j3 with q|⟨i,q,_,_,_,q2,_⟩
     · omega
     · have:i=k:=by omega
       rw [<- this];exact q2
theorem hO.edges (fok:bQ f) (h:hO f t N r):KE f (bS N f.length)/\(bS N f.length).Nodup/\ ∀e∈bS N f.length,iL (nC f e.2) (nC f e.1) t:=by
 have ln:=h.len;have f1:=fok.1;have inf: ∀e∈bS N f.length,∃k j,k<f.length/\j<f.length/\j≠k/\NN f t j k/\e=((f[k]!).1,(f[j]!).1):=by
  intro e he;obtain ⟨k,k1,k2,k3⟩:=FW.1 he;have hp:=h.par k1;have hr:(k:Int)≠r:=fun q=>by have:=hp.1 q;omega
  obtain ⟨p1,p2,p3,p4⟩:=hp.2.1 hr;exact ⟨k,mQ N k,k1,by omega,p3,p4,by rw [k3,h.ids k k1,h.ids (mQ N k) (by omega)]⟩
 have hb: ∀e∈bS N f.length,kG f e:=fun e he=>by
  obtain ⟨k,j,k1,j1,_,_,rfl⟩:=inf e he;exact ⟨⟨k,k1,rfl⟩,⟨j,j1,rfl⟩⟩
 refine ⟨⟨Nat.le_trans (oA N _) (by omega),fun e he=>?_,hb⟩,?_,fun e he=>?_⟩
 · obtain ⟨⟨p1,p2⟩,q1,q2⟩:=And.intro (jU fok (hb e he).1) (jU fok (hb e he).2)
   obtain ⟨k,j,k1,j1,ne,_,rfl⟩:=inf e he
   have:(f[k]!).1≠(f[j]!).1:=fun q=>ne (wX fok.2.2 k1 j1 q).symm
   unfold gK at p1 q1;unfold fQ;dsimp only at*;omega
 · have go: ∀n,n<=f.length->(bS N n).Nodup:=by
    intro n
    induction n with
    |zero=>exact fun _=>List.nodup_nil
    |succ n ih=>
     intro hn;rw [bS,List.nodup_append];refine ⟨ih (by omega),?_,fun x hx y hy e=>?_⟩
     · unfold EX;split
       · exact List.nodup_cons.2 ⟨List.not_mem_nil,List.nodup_nil⟩
       · exact List.nodup_nil
     · subst e
       obtain ⟨k,k1,_,k3⟩:=FW.1 hx;unfold EX at hy;split at hy
       · have hy:=List.mem_singleton.1 hy
         rw [k3] at hy;have e1:(N[k]!).1=(N[n]!).1:=(Prod.mk.inj hy).1;rw [h.ids k (by omega),h.ids n (by omega)] at e1
         have:=wX fok.2.2 (by omega) (by omega) e1
         omega
       · cases hy
   exact go _ (Nat.le_refl _)
 · obtain ⟨k,j,k1,j1,_,p,rfl⟩:=inf e he
   rw [HA fok.2.2 j1 rfl,HA fok.2.2 k1 rfl];exact p
end
end Go.Proofs.YthljmpcakagceaaGreat
namespace Go.Proofs.YthljmpcakagceaaGreat
open Go.Vm Classical
theorem aPr {f:List Pt} (fok:bQ f) {t:Int×Int} (r:cE t) (r64:qG t) {i j:Nat} (hi:i<f.length) (hj:j<f.length) (hne:i≠j):oG f[i]! f[j]! t=some (decide (NN f t i j),0):=by
 have ne:(f[i]!).1≠(f[j]!).1:=fun h=>hne (wX fok.2.2 hi hj h)
 rcases JZ (fok.2.1 _ (bG hi)) (fok.2.1 _ (bG hj)) r64 r with h|⟨h,_⟩
 · rw [h,if_neg ne];rfl
 · exact absurd h ne
def eI (es:List Nat):List Int:=es.map fun e:Nat=>(e:Int)
theorem Y9 (E:List Int) (m:Nat) (x:Int) (h:m+1<=E.length):(fY E m [x]).length=E.length:=by
 unfold fY;simp only [List.length_append,List.length_take,List.length_drop,List.length_singleton];omega
theorem aCO (es:List Nat):(eI es).length=es.length:=List.length_map ..
theorem aJH (es:List Nat) {j:Nat} (h:j<es.length):(eI es)[j]! =(es[j]!:Int):=by
 rw [getElem!_pos (eI es) j (by rw [aCO];exact h),getElem!_pos es j h]
 exact List.getElem_map ..
theorem ZA (es:List Nat) (m:Nat):eI (es.take m)=(eI es).take m:=List.map_take ..
def o2 (f:List Pt) (t:Int×Int) (e c:Nat) (i:Nat) (root:Int) (N:List Nd) (E:List Int):=
 (e,c,f,(f.length:Int),(i:Int),f,t.1,t.2,(0:Int),root,N,E)
def o1 (f:List Pt) (t:Int×Int) (e c:Nat) (i:Nat) (root:Int) (N:List Nd) (E:List Int) (left:Int):=
 (e,c,(i:Int),f,(f.length:Int),(i:Int),f,t.1,t.2,(0:Int),root,N,E,(f[i]!).1,(f[i]!).2.1,(f[i]!).2.2,(f[i]!).1,left,(-1:Int))
def zC (f:List Pt) (N:List Nd) (es:List Nat) (i m:Nat):List Nd:=
 (if m=0 then N else N.set es[m-1]! ((N[es[m-1]!]!).1,(N[es[m-1]!]!).2.1,(i:Int)))++[((f[i]!).1,if m<es.length then (es[m]!:Int) else -1,-1)]
theorem aR1 {f:List Pt} (fok:bQ f) {t:Int×Int} (r:cE t) (r64:qG t) {i:Nat} (hi:i<f.length) {es:List Nat} (hes: ∀e∈es,e<i) {N:List Nd} (hN:N.length=i) {root:Int} {E:List Int} (hE:E.take es.length=eI es) (le:es.length<=E.length) (lE:E.length<=1000):
 ∀(e:Nat),e<=es.length->(∀j,e<=j->j<es.length-> ¬NN f t es[j]! i)->
  ∃(m:Nat) (E':List Int),m<=e/\(0<m->NN f t es[m-1]! i)/\(∀j,m<=j->j<es.length-> ¬NN f t es[j]! i)/\E'.take (m+1)=eI (es.take m++[i])/\m+1<=E'.length/\E'.length<=E.length+1/\
   aH qS (o1 f t e E.length i root N E (if e<es.length then (es[e]!:Int) else -1))=some (.next (o2 f t (m+1) E'.length (i+1) (if m=0 then (i:Int) else root) (zC f N es i m) E')):=by
 have f1:=fok.1;have sc:=aX (show i<1000000000 by omega)
 have put: ∀m,m<=es.length-> ∃E':List Int,E'.take (m+1)=eI (es.take m++[i])/\m+1<=E'.length/\E'.length<=E.length+1/\
  ((m+1<=E.length->E'=fY E m [(i:Int)])/\(¬m+1<=E.length->E'=E.take m++[(i:Int)])):=by
  intro m hm;have tm:E.take m=eI (es.take m):=by rw [ZA,<- hE,List.take_take,Nat.min_eq_left hm]
  have ei:eI (es.take m++[i])=eI (es.take m)++[(i:Int)]:=List.map_append ..;have lm:(E.take m++[(i:Int)]).length=m+1:=by rw [List.length_append,List.length_take,List.length_singleton];omega
  by_cases h:m+1<=E.length
  · refine ⟨fY E m [(i:Int)],?_,?_,?_,fun _=>rfl,fun q=>absurd h q⟩
    · unfold fY
      rw [ei,<- tm,List.take_append_of_le_length (by omega),List.take_of_length_le (by omega)]
    · unfold fY;rw [List.length_append];omega
    · unfold fY;rw [List.length_append,lm,List.length_drop,List.length_singleton];omega
  · refine ⟨E.take m++[(i:Int)],?_,by omega,by omega,fun q=>absurd q h,fun _=>rfl⟩
    rw [List.take_of_length_le (by omega),ei,tm]
 have en: ∀(s:Nat),([(i:Int)]:List Int).length=1:=fun _=>rfl
 have ble_t: ∀{a b:Nat},a<=b->Nat.ble a b=true:=fun h=>Nat.ble_eq_true_of_le h
 have ble_f: ∀{a b:Nat},¬a<=b->Nat.ble a b=false:=fun h=>by
  cases hb:Nat.ble _ _ with
  |false=>rfl
  |true=>exact absurd (Nat.le_of_ble_eq_true hb) h
 intro e
 induction e with
 |zero=>
  intro _ hall;obtain ⟨E',e1,e2,e3,e4,e5⟩:=put 0 (Nat.zero_le _);refine ⟨0,E',Nat.le_refl _,fun h=>absurd h (Nat.lt_irrefl _),hall,e1,e2,e3,aJ ?_⟩
  have ap: ∀x:Nd,bE N [x]=some (N++[x]):=fun x=>cD (by rw [List.length_singleton];omega)
  have ap2:bE (E.take 0) [(i:Int)]=some (E.take 0++[(i:Int)]):=cD (by rw [List.length_singleton,List.length_take];omega)
  unfold qS o1 o2 zC
  by_cases h:0+1<=E.length
  · simp only [aF,aL (show¬(0:Int)<((0:Nat):Int) by omega),cond_false,ap,aB,List.length_singleton,ble_t h,cond_true,Bool.not_false,Bool.and_self,sc,e4 h,if_true]
    rw [Y9 _ _ _ h]
  · simp only [aF,aL (show¬(0:Int)<((0:Nat):Int) by omega),cond_false,ap,aB,List.length_singleton,ble_f h,ap2,ble_t (Nat.zero_le E.length),cond_true,sc,e5 h,if_true]
    rfl
 |succ e ih=>
  intro he hall;have tk:E.take (e+1)=eI (es.take (e+1)):=by rw [ZA,<- hE,List.take_take,Nat.min_eq_left he]
  have lt:(eI (es.take (e+1))).length=e+1:=by rw [aCO,List.length_take];omega
  have ge:aO (E.take (e+1)) ((e:Nat):Int)=some (es[e]!:Int):=by
   rw [tk,aD _ e (by omega),aJH _ (by rw [List.length_take];omega),lJ (by omega)]
  have ew:aA .i64 (((e+1:Nat):Int) -1)=((e:Nat):Int):=by rw [C2 ⟨by omega,by omega⟩];omega
  have eb:es[e]!<i:=hes _ (bG (by omega))
  have gp:=aD f es[e]! (by omega)
  have ah:=aPr fok (t:=(t.1,t.2)) r r64 (i:=es[e]!) (j:=i) (by omega) hi (by omega)
  have gn:=aD N es[e]! (by omega)
  have peta:((f[i]!).1,(f[i]!).2.1,(f[i]!).2.2)=f[i]!:=rfl
  by_cases c:NN f t es[e]! i
  · rw [show decide (NN f (t.1,t.2) es[e]! i)=true from aN c] at ah
    obtain ⟨E',e1,e2,e3,e4,e5⟩:=put (e+1) he;refine ⟨e+1,E',Nat.le_refl _,fun _=>c,hall,e1,e2,e3,aJ ?_⟩
    have ap: ∀(y x:Nd),bE (N.set es[e]! y) [x]=some (N.set es[e]! y++[x]):=fun y x=>cD (by rw [List.length_singleton,List.length_set];omega)
    have ap2:bE (E.take (e+1)) [(i:Int)]=some (E.take (e+1)++[(i:Int)]):=cD (by rw [List.length_singleton,List.length_take];omega)
    unfold qS o1 o2 zC;rw [show e+1-1=e from rfl,if_neg (Nat.succ_ne_zero e),if_neg (Nat.succ_ne_zero e)]
    by_cases h:e+1+1<=E.length
    · simp only [aF,aN (show (0:Int)<((e+1:Nat):Int) by omega),cond_true,ew,ge,aB,gp,peta,ah,gn,lI,ap,List.length_singleton,ble_t h,Bool.not_false,Bool.and_self,sc,e4 h]
      rw [Y9 _ _ _ h]
    · simp only [aF,aN (show (0:Int)<((e+1:Nat):Int) by omega),cond_true,ew,ge,aB,gp,peta,ah,gn,lI,ap,List.length_singleton,ble_f h,cond_false,ap2,ble_t (show e+1<=E.length by omega),sc,e5 h]
      rw [show (E.take (e+1)++[(i:Int)]).length=e+1+1 from by rw [List.length_append,List.length_take,List.length_singleton];omega]
  · rw [show decide (NN f (t.1,t.2) es[e]! i)=false from aL c] at ah
    obtain ⟨m,E',h1,h2,h3,h4,h5,h6,h7⟩:=ih (by omega) (fun j j1 j2=>by
     by_cases q:j=e
     · rw [q];exact c
     · exact hall j (by omega) j2)
    refine ⟨m,E',by omega,h2,h3,h4,h5,h6,?_⟩
    rw [if_pos (show e<es.length by omega)] at h7
    rw [<- h7];refine aW ?_;unfold qS o1;simp only [aF,aN (show (0:Int)<((e+1:Nat):Int) by omega),cond_true,ew,ge,aB,gp,peta,ah,cond_false,aN (show (0:Int)<=((e:Nat):Int) by omega),aN (show ((e:Nat):Int)<=(E.length:Int) by omega),Bool.and_self,Int.toNat_natCast]
end Go.Proofs.YthljmpcakagceaaGreat
namespace Go.Proofs.YthljmpcakagceaaGreat
open Go.Vm Classical
theorem aJI {f:List Pt} {N:List Nd} {es:List Nat} {i m:Nat} (hN:N.length=i) (hes: ∀e∈es,e<i) (hm:m<=es.length):
 (zC f N es i m).length=i+1/\(zC f N es i m)[i]! =((f[i]!).1,if m<es.length then (es[m]!:Int) else -1,-1)/\
 ∀k,k<i->((zC f N es i m)[k]!).1=(N[k]!).1/\((zC f N es i m)[k]!).2.1=(N[k]!).2.1/\((0<m/\k=es[m-1]!)->((zC f N es i m)[k]!).2.2=(i:Int))/\(¬(0<m/\k=es[m-1]!)->((zC f N es i m)[k]!).2.2=(N[k]!).2.2):=by
 unfold zC
 by_cases m0:m=0
 · rw [if_pos m0]
   refine ⟨by rw [List.length_append,hN];rfl,?_,fun k hk=>?_⟩
   · rw [hH (by omega),hN,Nat.sub_self];rfl
   · rw [gT (by omega)]
     exact ⟨rfl,rfl,fun q=>by omega,fun _=>rfl⟩
 · rw [if_neg m0]
   have hb:=hes _ (bG (show m-1<es.length by omega))
   refine ⟨by rw [List.length_append,List.length_set,hN];rfl,?_,fun k hk=>?_⟩
   · rw [hH (by rw [List.length_set];omega),List.length_set,hN,Nat.sub_self];rfl
   · rw [gT (by rw [List.length_set];omega),bC]
     by_cases q:k=es[m-1]!
     · rw [if_pos ⟨q,by omega⟩,q]
       exact ⟨rfl,rfl,fun _=>rfl,fun w=>absurd ⟨by omega,rfl⟩ w⟩
     · rw [if_neg (fun w=>q w.1)]
       exact ⟨rfl,rfl,fun w=>absurd w.2 q,fun _=>rfl⟩
theorem aR2 {f:List Pt} (fok:bQ f) {t:Int×Int} (r:cE t) (r64:qG t): ∀(d i:Nat) (es:List Nat) (N:List Nd) (root:Int) (E:List Int),f.length-i<=d->i<=f.length->N.length=i->(∀k,k<i->(N[k]!).1=(f[k]!).1)->
 yD (NN f t) N 0 i root es->E.take es.length=eI es->es.length<=E.length->E.length<=i->
 ∃(root':Int) (N':List Nd),aH oH (o2 f t es.length E.length i root N E)=some (⟨root',N'⟩,0)/\hO f t N' root':=by
 have f1:=fok.1;have fin: ∀(es:List Nat) (N:List Nd) (root:Int) (E:List Int),N.length=f.length->(∀k,k<f.length->(N[k]!).1=(f[k]!).1)->yD (NN f t) N 0 f.length root es->
  ∃(root':Int) (N':List Nd),aH oH (o2 f t es.length E.length f.length root N E)=some (⟨root',N'⟩,0)/\hO f t N' root':=fun es N root E h1 h2 h3=>
  ⟨root,N,aJ (by
   unfold oH o2;simp only [aL (show¬(f.length:Int)<(f.length:Int) by omega),cond_false]),⟨h1,h2,h3.tree⟩⟩
 intro d
 induction d with
 |zero=>
  intro i es N root E hd hi h1 h2 h3 _ _ _
  have:i=f.length:=by omega
  subst this;exact fin es N root E h1 h2 h3
 |succ d ih=>
  intro i es N root E hd hi h1 h2 h3 h4 h5 h6
  by_cases he:i=f.length
  · subst he;exact fin es N root E h1 h2 h3
  have hi':i<f.length:=by omega
  have o:=Q1 fok.2.2 t;have mem:=h3.mem;have hes: ∀e∈es,e<i:=fun e he=>(mem e he).2
  obtain ⟨m,E',m1,m2,m3,m4,m5,m6,m7⟩:=aR1 fok r r64 hi' hes h1 (root:=root) h4 h5 (by omega) es.length (Nat.le_refl _) (fun j j1 j2=>by omega)
  rw [if_neg (Nat.lt_irrefl _)] at m7;have st:oH (o2 f t es.length E.length i root N E)=some (.next (o2 f t (m+1) E'.length (i+1) (if m=0 then (i:Int) else root) (zC f N es i m) E')):=by
   unfold oH
   conv=>lhs;unfold o2
   simp only [aN (show (i:Int)<(f.length:Int) by omega),cond_true,aD f i hi',aB]
   exact m7
  obtain ⟨a1,a2,a3⟩:=aJI (f:=f) h1 hes m1;have sp:=h3.add o (N':=zC f N es i m) m (Nat.zero_le _) hi' m1 (fun j hj=>by
   by_cases q:j=m-1
   · rw [q];exact m2 (by omega)
   · have hj':=hes _ (bG (show j<es.length by omega))
     have hm':=hes _ (bG (show m-1<es.length by omega))
     exact o.tr _ es[m-1]! _ (by omega) (by omega) hi' (h3.chain j (m-1) (by omega) (by omega)) (m2 (by omega))) m3
   (by rw [a2]) (by rw [a2]) (fun k _ hk=>by
    obtain ⟨_,b2,b3,b4⟩:=a3 k hk;exact ⟨b2,b3,b4⟩)
  have le:(es.take m++[i]).length=m+1:=by rw [List.length_append,List.length_take,List.length_singleton];omega
  rw [aW st]
  have:=ih (i+1) (es.take m++[i]) (zC f N es i m) (if m=0 then (i:Int) else root) E' (by omega) (by omega) a1 (fun k hk=>by
   by_cases q:k=i
   · rw [q,a2]
   · rw [(a3 k (by omega)).1];exact h2 k (by omega)) sp (by rw [le];exact m4) (by rw [le];exact m5) (by omega)
  rw [le] at this;exact this
theorem ZB {f:List Pt} (fok:bQ f) {t:Int×Int} (r:cE t) (r64:qG t): ∃(root:Int) (N:List Nd),oI ⟨f⟩ t=some (⟨root,N⟩,0)/\hO f t N root:=by
 obtain ⟨root,N,h1,h2⟩:=aR2 fok r r64 f.length 0 [] [] (-1) [] (by omega) (by omega) rfl (fun k hk=>by omega) (.nil (Nat.le_refl _)) rfl (Nat.le_refl _) (Nat.le_refl _)
 refine ⟨root,N,?_,h2⟩;have hc:dE ⟨f⟩=some 0:=by rw [gE];exact congrArg some (fO.2 fok)
 unfold oI AZ;rw [hc,aB,bP rfl,cond_false,gC r64,if_pos r,aB,aB,bP rfl,cond_false];exact h1
theorem aPs {f:List Pt} (fok:bQ f) {t:Int×Int} (r64:qG t) {a b:Nat} (hb:b<=f.length): ∀(d j best:Nat),b-j<=d->j<=b->BZ (NN f t) a j best-> ∃i:Nat,aH kA ((b:Int),(best:Int),(j:Int),f,t)=some (i:Int)/\BZ (NN f t) a b i:=by
 have f1:=fok.1;have o:=Q1 fok.2.2 t;have fin: ∀best:Nat,BZ (NN f t) a b best-> ∃i:Nat,aH kA ((b:Int),(best:Int),(b:Int),f,t)=some (i:Int)/\BZ (NN f t) a b i:=fun best h=>⟨best,aJ (by
  unfold kA;simp only [aL (show¬(b:Int)<(b:Int) by omega),cond_false]),h⟩
 intro d
 induction d with
 |zero=>
  intro j best hd hj h
  have:j=b:=by omega
  subst this;exact fin best h
 |succ d ih=>
  intro j best hd hj h
  by_cases he:j=b
  · subst he;exact fin best h
  have h1:=h.lo;have h2:=h.hi;have sc:=aX (show j<1000000000 by omega)
  have ld:=MG (fok.2.1 _ (bG (show j<f.length by omega))) (fok.2.1 _ (bG (show best<f.length by omega))) r64
  by_cases c:NN f t j best
  · rw [show decide (iL f[j]! f[best]! t)=true from aN c] at ld
    rw [aW (y:=((b:Int),(j:Int),((j+1:Nat):Int),f,t)) (by
     unfold kA;simp only [aN (show (j:Int)<(b:Int) by omega),cond_true,aL (show¬(best:Int)<0 by omega),cond_false,aD f j (by omega),aD f best (by omega),aB,ld,sc])]
    refine ih (j+1) j (by omega) (by omega) ⟨by omega,by omega,fun k k1 k2 k3=>?_⟩
    by_cases q:k=best
    · rw [q];exact c
    · exact o.tr j best k (by omega) (by omega) (by omega) c (h.top k k1 (by omega) q)
  · rw [show decide (iL f[j]! f[best]! t)=false from aL c] at ld
    rw [aW (y:=((b:Int),(best:Int),((j+1:Nat):Int),f,t)) (by
     unfold kA;simp only [aN (show (j:Int)<(b:Int) by omega),cond_true,aL (show¬(best:Int)<0 by omega),cond_false,aD f j (by omega),aD f best (by omega),aB,ld,sc])]
    refine ih (j+1) best (by omega) (by omega) ⟨h1,by omega,fun k k1 k2 k3=>?_⟩
    by_cases q:k=j
    · rw [q];exact o.tot j best (by omega) (by omega) (by omega) c
    · exact h.top k k1 (by omega) k3
theorem aPt {f:List Pt} (fok:bQ f) {t:Int×Int} (r64:qG t) {a b:Nat} (hab:a<b) (hb:b<=f.length): ∃i:Nat,vT ⟨f⟩ t (a:Int) (b:Int)=some (i:Int)/\BZ (NN f t) a b i:=by
 have f1:=fok.1;obtain ⟨i,h1,h2⟩:=aPs fok r64 hb (b- (a+1)) (a+1) a (by omega) (by omega) (show BZ (NN f t) a (a+1) a from ⟨by omega,by omega,fun k k1 k2 k3=>by omega⟩)
 refine ⟨i,?_,h2⟩;unfold vT;rw [aW (y:=((b:Int),(a:Int),((a+1:Nat):Int),f,t)) (by
  unfold kA;simp only [aN (show (a:Int)<(b:Int) by omega),cond_true,aN (show (-1:Int)<0 by omega),aX (show a<1000000000 by omega)])]
 exact h1
theorem UL (f:List Pt) (t:Int×Int) (a:Nat):vT ⟨f⟩ t (a:Int) (a:Int)=some (-1):=by
 unfold vT;refine aJ ?_;unfold kA;simp only [aL (show¬(a:Int)<(a:Int) by omega),cond_false]
theorem aJJ {f:List Pt} (fok:bQ f) {t:Int×Int} (r64:qG t): ∀(d m a b:Nat) (N:List Nd),b-a<=d->d<m->a<=b->b<=f.length->N.length=f.length->
 ∃(r:Int) (N':List Nd),jH m (f,t.1,t.2,0,(a:Int),(b:Int),N)=some (r,N')/\N'.length=f.length/\(∀k:Nat,(N'[k]!).1=(N[k]!).1)/\(∀k:Nat,(k<a\/b<=k)->N'[k]! =N[k]!)/\mP (NN f t) N' a b r:=by
 have f1:=fok.1;intro d
 induction d with
 |zero=>
  intro m a b N hd hm hab hb hN
  have:a=b:=by omega
  subst this;cases m with
  |zero=>omega
  |succ m=>
   refine ⟨-1,N,?_,hN,fun _=>rfl,fun _ _=>rfl,.nil (Nat.le_refl _)⟩
   show fK _ _=_;unfold fK;simp only [show ((t.1,t.2):Int×Int)=t from rfl,UL f t a,aB,aL (show¬(0:Int)<= -1 by omega),cond_false,beq_self_eq_true,cond_true]
 |succ d ih=>
  intro m a b N hd hm hab hb hN;cases m with
  |zero=>omega
  |succ m=>
  by_cases e:a=b
  · subst e
    refine ⟨-1,N,?_,hN,fun _=>rfl,fun _ _=>rfl,.nil (Nat.le_refl _)⟩
    show fK _ _=_;unfold fK;simp only [show ((t.1,t.2):Int×Int)=t from rfl,UL f t a,aB,aL (show¬(0:Int)<= -1 by omega),cond_false,beq_self_eq_true,cond_true]
  obtain ⟨i,t1,t2⟩:=aPt fok r64 (show a<b by omega) hb
  have lo:=t2.lo;have hi:=t2.hi;obtain ⟨l,N1,g1,g2,g3,g4,g5⟩:=ih m a i N (by omega) (by omega) lo (by omega) hN
  have gi:=aD N1 i (by omega)
  obtain ⟨rr,N2,k1,k2,k3,k4,k5⟩:=ih m (i+1) b (N1.set i ((N1[i]!).1,l,(N1[i]!).2.2)) (by omega) (by omega) (by omega) hb (by rw [List.length_set];exact g2)
  have gj:=aD N2 i (by omega)
  have n2i:N2[i]! =((N1[i]!).1,l,(N1[i]!).2.2):=by rw [k4 i (.inl (by omega)),bC,if_pos ⟨rfl,by omega⟩]
  have n3i:(N2.set i ((N2[i]!).1,(N2[i]!).2.1,rr))[i]! =((N1[i]!).1,l,rr):=by rw [bC,if_pos ⟨rfl,by omega⟩,n2i]
  have n3: ∀k,k≠i->(N2.set i ((N2[i]!).1,(N2[i]!).2.1,rr))[k]! =N2[k]!:=fun k hk=>by rw [bC,if_neg (fun w=>hk w.1)]
  have n1: ∀k,k≠i->(N1.set i ((N1[i]!).1,l,(N1[i]!).2.2))[k]! =N1[k]!:=fun k hk=>by rw [bC,if_neg (fun w=>hk w.1)]
  refine ⟨(i:Int),N2.set i ((N2[i]!).1,(N2[i]!).2.1,rr),?_,by rw [List.length_set];exact k2,fun k=>?_,fun k hk=>?_,?_⟩
  · show fK _ _=_
    unfold fK;simp only [show ((t.1,t.2):Int×Int)=t from rfl,t1,aB,aN (show (0:Int)<=(i:Int) by omega),cond_true,g1,gi,lI,aX (show i<1000000000 by omega),k1,gj,List.length_set,k2,hN,beq_self_eq_true]
  · by_cases q:k=i
    · rw [q,n3i,<- g3 i]
    · rw [n3 k q,k3 k,n1 k q,g3 k]
  · rw [n3 k (by omega),k4 k (by omega),n1 k (by omega),g4 k (by omega)]
  · refine .node t2 ?_ ?_
    · rw [n3i]
      refine g5.frame fun k h1 h2=>?_
      rw [n3 k (by omega),k4 k (.inl (by omega)),n1 k (by omega)]
    · rw [n3i]
      refine k5.frame fun k h1 h2=>?_
      rw [n3 k (by omega)]
theorem O2 {f:List Pt} (fok:bQ f) {t:Int×Int} (r64:qG t): ∃(root:Int) (N:List Nd),sG ⟨f⟩ t=some ⟨root,N⟩/\hO f t N root:=by
 have f1:=fok.1
 let ini:Nat->List Nd:=fun i=>(f.take i).map fun p=>(p.1,0,0)
 have il: ∀i,i<=f.length->(ini i).length=i:=fun i hi=>by show (List.map _ _).length=_;rw [List.length_map,List.length_take];omega
 have key:=bV (body:=oX) (fun i=>((i:Int),f,t.1,t.2,0,0,ini i)) f.length (fun i hi=>by
  have nx:ini (i+1)=ini i++[((f[i]!).1,0,0)]:=by
   show List.map _ _=List.map _ _++_;rw [gF hi,List.map_append];rfl
  unfold oX;simp only [aF,aN (show (i:Int)<(f.length:Int) by omega),cond_true,aD f i hi,aB,aX (show i<1000000000 by omega),nx]
  rw [cD (by rw [il i (by omega),List.length_singleton];omega),aB])
 obtain ⟨r,N,g1,g2,g3,_,g5⟩:=aJJ fok r64 f.length 1000000 0 f.length (ini f.length) (by omega) (by omega) (by omega) (Nat.le_refl _) (il _ (Nat.le_refl _))
 refine ⟨r,N,?_,⟨g2,fun k hk=>?_,g5⟩⟩
 · unfold sG FM
   rw [show aH oX (0,f,t.1,t.2,0,0,[])=_ from key];rw [aJ (r:=(⟨r,N⟩:mM)) (by
    unfold oX;have g1':sF (f,t.1,t.2,0,0,(f.length:Int),ini f.length)=some (r,N):=g1;simp only [aF,aL (show¬(f.length:Int)<(f.length:Int) by omega),cond_false,g1',aB]),aB]
 · rw [g3 k]
   show (((f.take f.length).map fun p=>((p.1,0,0):Nd))[k]!).1=_
   rw [getElem!_pos _ k (by rw [List.length_map,List.length_take];omega),List.getElem_map,List.getElem_take,getElem!_pos f k hk]
end Go.Proofs.YthljmpcakagceaaGreat
namespace Go.Proofs.YthljmpcakagceaaGreat
open Go.Vm Classical
def B1 (U:List Int) (c:Int) (i:Nat):List Int:=if 0<=c then U.set c.toNat (i:Int) else U
def WU (N:List Nd) (U:List Int):Nat->List Int
 |0=>U
 |i+1=>B1 (B1 (WU N U i) (N[i]!).2.1 i) (N[i]!).2.2 i
theorem DC (U:List Int) (c:Int) (i:Nat):(B1 U c i).length=U.length:=by unfold B1;split<;>simp
theorem BH (N:List Nd) (U:List Int): ∀i,(WU N U i).length=U.length
 |0=>rfl
 |i+1=>by rw [WU,DC,DC,BH N U i]
theorem O3 (U:List Int) (c:Int) (i k:Nat) (hk:k<U.length):(B1 U c i)[k]! =if c=(k:Int) then (i:Int) else U[k]!:=by
 unfold B1
 by_cases h:0<=c
 · rw [if_pos h,bC]
   by_cases q:c=(k:Int)
   · rw [if_pos ⟨by omega,by omega⟩,if_pos q]
   · rw [if_neg (fun w=>q (by omega)),if_neg q]
 · rw [if_neg h,if_neg (by omega)]
theorem aAF {α:Type} [Inhabited α] {n i:Nat} (a:α) (h:i<n):(List.replicate n a)[i]! =a:=by
 rw [getElem!_pos _ i (by rw [List.length_replicate];exact h),List.getElem_replicate]
section
variable {f : List Pt} {t : Int × Int} {N : List Nd} {r : Int}
theorem hO.link (h:hO f t N r) {j:Nat} (hj:j<f.length) {c:Int} (hc:(N[j]!).2.1=c\/(N[j]!).2.2=c):c= -1\/(0<=c/\c<N.length):=by
 have ln:=h.len;rcases h.tree.kids j (Nat.zero_le _) hj c hc with e|⟨k,e,_,k2,_⟩
 · exact .inl e
 · exact .inr ⟨by omega,by omega⟩
theorem hO.upIs (h:hO f t N r) {U:List Int} (hU:U.length=N.length): ∀i,i<=N.length-> ∀k,k<N.length->(WU N U i)[k]! =if mQ N k<i then (mQ N k:Int) else U[k]!
 |0,_,k,_=>by rw [if_neg (Nat.not_lt_zero _)];rfl
 |i+1,hi,k,hk=>by
  have ln:=h.len;have ih:=h.upIs hU i (by omega) k hk
  have p:=h.par (k:=k) (by omega)
  rw [WU,O3 _ _ _ _ (by rw [DC,BH];omega),O3 _ _ _ _ (by rw [BH];omega),ih]
  by_cases hb:Below N k i
  · have e:=p.2.2 i (by omega) hb
    rw [if_pos (show mQ N k<i+1 by omega),<- e]
    rcases hb with q|q
    · by_cases w:(N[i]!).2.2=(k:Int)
      · rw [if_pos w]
      · rw [if_neg w,if_pos q]
    · rw [if_pos q]
  · have n1: ¬(N[i]!).2.1=(k:Int):=fun q=>hb (.inl q)
    have n2: ¬(N[i]!).2.2=(k:Int):=fun q=>hb (.inr q)
    rw [if_neg n2,if_neg n1];have ne:mQ N k≠i:=fun q=>by
     by_cases hr:(k:Int)=r
     · have:=p.1 hr;omega
     · have:=(p.2.1 hr).2.1
       rw [q] at this;exact hb this
    by_cases q:mQ N k<i
    · rw [if_pos q,if_pos (by omega)]
    · rw [if_neg q,if_neg (by omega)]
def m1S (N:List Nd) (r:Int) (i:Nat) (j:Int) (U:List Int):=((i:Int),N,(N.length:Int),(i:Int),(N[i]!).2.1,(N[i]!).2.2,j,(0:Int),r,N,U)
def m3S (N:List Nd) (r:Int) (i:Nat) (U:List Int):=(N,(N.length:Int),(i:Int),(0:Int),r,N,U)
theorem KF {U:List Int} {c:Int} (h0:0<=c) (h:c<U.length): ∃x,aO U c=some x:=⟨_,dN h0 h⟩
theorem KG {U:List Int} {c:Int} (h0:0<=c) (x:Int):cA U c x=U.set c.toNat x:=by
 obtain ⟨n,rfl⟩:=Int.eq_ofNat_of_zero_le h0;rw [lI,Int.toNat_natCast]
theorem aJK (h:hO f t N r) (hN:N.length<=1000) {i:Nat} (hi:i<N.length) {U:List Int} (hU:U.length=N.length):aH jC (m1S N r i 0 U)=some (.next (m3S N r (i+1) (B1 (B1 U (N[i]!).2.1 i) (N[i]!).2.2 i))):=by
 have ln:=h.len;have l1:=h.link (j:=i) (by omega) (.inl rfl)
 have l2:=h.link (j:=i) (by omega) (.inr rfl)
 have s1:jC (m1S N r i 0 U)=some (.next (m1S N r i 1 (B1 U (N[i]!).2.1 i))):=by
  unfold jC m1S B1;simp only [aN (show (0:Int)<2 by omega),cond_true,beq_self_eq_true,show aA .i64 (0+1)=1 from C2 ⟨by omega,by omega⟩]
  by_cases q:0<=(N[i]!).2.1
  · obtain ⟨x,hx⟩:=KF (U:=U) q (by omega)
    rw [aN q,cond_true,hx,aB,KG q,if_pos q]
  · rw [aL q,cond_false,if_neg q]
 have s2: ∀V:List Int,V.length=N.length->jC (m1S N r i 1 V)=some (.next (m1S N r i 2 (B1 V (N[i]!).2.2 i))):=by
  intro V hV;unfold jC m1S B1;simp only [aN (show (1:Int)<2 by omega),cond_true,show ((1:Int)==0)=false from rfl,cond_false,beq_self_eq_true,show aA .i64 (1+1)=2 from C2 ⟨by omega,by omega⟩]
  by_cases q:0<=(N[i]!).2.2
  · obtain ⟨x,hx⟩:=KF (U:=V) q (by omega)
    rw [aN q,cond_true,hx,aB,KG q,if_pos q]
  · rw [aL q,cond_false,if_neg q]
 rw [aW s1,aW (s2 _ (by rw [DC];exact hU))]
 refine aJ ?_;unfold jC m1S m3S;simp only [aL (show¬(2:Int)<2 by omega),cond_false,aX (show i<1000000000 by omega)]
theorem WV (h:hO f t N r) (hN:N.length<=1000):aH kY ((N.length:Int),0,0,r,N,List.replicate N.length 0)=some (⟨r,N⟩,bS N N.length):=by
 have ln:=h.len;have k4:=bV (body:=kY) (fun i=>((N.length:Int),(i:Int),(0:Int),r,N,List.replicate i (-1)++List.replicate (N.length-i) 0)) N.length (fun i hi=>by
  have ll:(List.replicate i (-1:Int)++List.replicate (N.length-i) 0).length=N.length:=by rw [List.length_append,List.length_replicate,List.length_replicate];omega
  have e:(List.replicate i (-1:Int)++List.replicate (N.length-i) 0).set i (-1)=List.replicate (i+1) (-1)++List.replicate (N.length- (i+1)) 0:=by
   rw [show N.length-i=(N.length- (i+1))+1 by omega,List.replicate_succ,List.set_append_right _ _ (by rw [List.length_replicate];exact Nat.le_refl _),List.length_replicate,Nat.sub_self,List.set_cons_zero,List.replicate_succ',List.append_assoc]
   rfl
  unfold kY;simp only [aN (show (i:Int)<(N.length:Int) by omega),cond_true,aD (List.replicate i (-1:Int)++List.replicate (N.length-i) 0) i (by omega),aB,lI,e,aX (show i<1000000000 by omega)])
 have e0:List.replicate 0 (-1:Int)++List.replicate (N.length-0) 0=List.replicate N.length 0:=rfl;have e1:List.replicate N.length (-1:Int)++List.replicate (N.length-N.length) 0=List.replicate N.length (-1):=by rw [Nat.sub_self,List.replicate_zero,List.append_nil]
 rw [e0,e1] at k4;rw [show aH kY ((N.length:Int),0,0,r,N,List.replicate N.length 0)=_ from k4];have lU:(List.replicate N.length (-1:Int)).length=N.length:=List.length_replicate ..;have k3:=bV (body:=kX) (fun i=>m3S N r i (WU N (List.replicate N.length (-1)) i)) N.length (fun i hi=>by
  have g:=aD N i hi;unfold kX
  conv=>lhs;unfold m3S
  simp only [aN (show (i:Int)<(N.length:Int) by omega),cond_true,g,aB]
  exact aJK h hN hi (by rw [BH,lU]))
 have up:=h.upIs lU N.length (Nat.le_refl _);have k2:=bV (body:=kW) (fun i=>(N,(N.length:Int),(i:Int),(0:Int),r,N,WU N (List.replicate N.length (-1)) N.length,bS N i)) N.length (fun i hi=>by
  have g:=aD N i hi;have gu:=aD (WU N (List.replicate N.length (-1)) N.length) i (by rw [BH,lU];exact hi)
  have el:=oA N i;rw [up i hi] at gu;unfold kW;rw [show bS N (i+1)=bS N i++EX N i from rfl];unfold EX
  by_cases q:mQ N i<N.length
  · rw [if_pos q] at gu
    simp only [aN (show (i:Int)<(N.length:Int) by omega),cond_true,g,gu,aB,aN (show (0:Int)<=(mQ N i:Int) by omega),aD N (mQ N i) q,aX (show i<1000000000 by omega),if_pos q]
    rw [cD (by rw [List.length_singleton];omega),aB]
  · rw [if_neg q,aAF (-1) hi] at gu
    simp only [aN (show (i:Int)<(N.length:Int) by omega),cond_true,g,gu,aB,aL (show¬(0:Int)<= -1 by omega),cond_false,aX (show i<1000000000 by omega),if_neg q,List.append_nil])
 have f2:aH kW (N,(N.length:Int),0,0,r,N,WU N (List.replicate N.length (-1)) N.length,[])=some (.done (.done (⟨r,N⟩,bS N N.length))):=by
  rw [show aH kW (N,(N.length:Int),0,0,r,N,WU N (List.replicate N.length (-1)) N.length,[])=_ from k2];refine aJ ?_;unfold kW;simp only [aL (show¬(N.length:Int)<(N.length:Int) by omega),cond_false]
 have f3:aH kX (m3S N r 0 (List.replicate N.length (-1)))=some (.done (⟨r,N⟩,bS N N.length)):=by
  rw [show aH kX (m3S N r 0 (List.replicate N.length (-1)))=_ from k3];refine aJ ?_;unfold kX m3S;simp only [aF,aL (show¬(N.length:Int)<(N.length:Int) by omega),cond_false]
  exact f2
 refine aJ ?_;unfold kY;simp only [aF,aL (show¬(N.length:Int)<(N.length:Int) by omega),cond_false]
 exact f3
def q1S (N:List Nd) (r:Int) (i:Nat) (j:Int) (U:List Int):=((i:Int),N,(N.length:Int),(i:Int),(N[i]!).2.1,(N[i]!).2.2,j,r,N,U)
def q3S (N:List Nd) (r:Int) (i:Nat) (U:List Int):=(N,(N.length:Int),(i:Int),r,N,U)
theorem aJL (h:hO f t N r) (hN:N.length<=1000) {i:Nat} (hi:i<N.length) {U:List Int} (hU:U.length=N.length):aH jE (q1S N r i 0 U)=some (.next (q3S N r (i+1) (B1 (B1 U (N[i]!).2.1 i) (N[i]!).2.2 i))):=by
 have ln:=h.len;have l1:=h.link (j:=i) (by omega) (.inl rfl)
 have l2:=h.link (j:=i) (by omega) (.inr rfl)
 have s1:jE (q1S N r i 0 U)=some (.next (q1S N r i 1 (B1 U (N[i]!).2.1 i))):=by
  unfold jE q1S B1;simp only [aN (show (0:Int)<2 by omega),cond_true,beq_self_eq_true,show aA .i64 (0+1)=1 from C2 ⟨by omega,by omega⟩]
  by_cases q:0<=(N[i]!).2.1
  · obtain ⟨x,hx⟩:=KF (U:=U) q (by omega)
    rw [aN q,cond_true,hx,aB,KG q,if_pos q]
  · rw [aL q,cond_false,if_neg q]
 have s2: ∀V:List Int,V.length=N.length->jE (q1S N r i 1 V)=some (.next (q1S N r i 2 (B1 V (N[i]!).2.2 i))):=by
  intro V hV;unfold jE q1S B1;simp only [aN (show (1:Int)<2 by omega),cond_true,show ((1:Int)==0)=false from rfl,cond_false,beq_self_eq_true,show aA .i64 (1+1)=2 from C2 ⟨by omega,by omega⟩]
  by_cases q:0<=(N[i]!).2.2
  · obtain ⟨x,hx⟩:=KF (U:=V) q (by omega)
    rw [aN q,cond_true,hx,aB,KG q,if_pos q]
  · rw [aL q,cond_false,if_neg q]
 rw [aW s1,aW (s2 _ (by rw [DC];exact hU))]
 refine aJ ?_;unfold jE q1S q3S;simp only [aL (show¬(2:Int)<2 by omega),cond_false,aX (show i<1000000000 by omega)]
theorem WW (h:hO f t N r) (hN:N.length<=1000):jZ ⟨r,N⟩=some (bS N N.length):=by
 have ln:=h.len;have lU:(List.replicate N.length (0:Int)).length=N.length:=List.length_replicate ..;have mk:CH (N.length:Int) (0:Int)=some (List.replicate N.length 0):=by
  unfold CH;rw [if_pos ⟨by omega,by omega⟩,Int.toNat_natCast]
 have k3:=bV (body:=nP) (fun i=>q3S N r i (WU N (List.replicate N.length 0) i)) N.length (fun i hi=>by
  have g:=aD N i hi;unfold nP
  conv=>lhs;unfold q3S
  simp only [aN (show (i:Int)<(N.length:Int) by omega),cond_true,g,aB]
  exact aJL h hN hi (by rw [BH,lU]))
 have up:=h.upIs lU N.length (Nat.le_refl _);have k2:=bV (body:=kZ) (fun i=>(N,(N.length:Int),(i:Int),r,N,WU N (List.replicate N.length 0) N.length,bS N i)) N.length (fun i hi=>by
  have g:=aD N i hi;have gu:=aD (WU N (List.replicate N.length 0) N.length) i (by rw [BH,lU];exact hi)
  have el:=oA N i;have p:=h.par (k:=i) (by omega)
  rw [up i hi] at gu;unfold kZ;rw [show bS N (i+1)=bS N i++EX N i from rfl];unfold EX
  by_cases q:(i:Int)=r
  · have e:=p.1 q
    simp only [aN (show (i:Int)<(N.length:Int) by omega),cond_true,g,aB,bP q,cond_false,aX (show i<1000000000 by omega),if_neg (show¬mQ N i<N.length by omega),List.append_nil]
  · have e:=(p.2.1 q).1
    rw [if_pos e] at gu;simp only [aN (show (i:Int)<(N.length:Int) by omega),cond_true,g,aB,eA q,gu,aD N (mQ N i) e,aX (show i<1000000000 by omega),if_pos e]
    rw [cD (by rw [List.length_singleton];omega),aB])
 have f2:aH kZ (N,(N.length:Int),0,r,N,WU N (List.replicate N.length 0) N.length,[])=some (.done (bS N N.length)):=by
  rw [show aH kZ (N,(N.length:Int),0,r,N,WU N (List.replicate N.length 0) N.length,[])=_ from k2];refine aJ ?_;unfold kZ;simp only [aL (show¬(N.length:Int)<(N.length:Int) by omega),cond_false]
 unfold jZ;simp only [aF,beq_self_eq_true,cond_true,mk,aB];rw [show aH nP (N,(N.length:Int),0,r,N,List.replicate N.length 0)=_ from k3];refine aJ ?_;unfold nP q3S;simp only [aF,aL (show¬(N.length:Int)<(N.length:Int) by omega),cond_false]
 exact f2
theorem aJM (h:hO f t N r) (hN:N.length<=1000) {i:Nat} (hi:i<N.length):aH qB ((i:Int),0,r,N,bS N i)=some (.next (((i+1:Nat):Int),r,N,bS N (i+1))):=by
 have ln:=h.len;have p:=h.par (k:=i) (by omega)
 have el:=oA N i;have g:=aD N i hi;have key:=bV (body:=qB) (fun j=>((i:Int),(j:Int),r,N,bS N i++(if mQ N i<j then [((N[i]!).1,(N[mQ N i]!).1)] else []))) N.length (fun j hj=>by
  have gj:=aD N j hj;unfold qB
  by_cases hb:Below N i j
  · have e:=p.2.2 j hj hb
    rw [if_neg (show¬mQ N i<j by omega),if_pos (show mQ N i<j+1 by omega),List.append_nil]
    have ap:bE (bS N i) [((N[i]!).1,(N[j]!).1)]=some (bS N i++[((N[i]!).1,(N[j]!).1)]):=cD (by rw [List.length_singleton];omega)
    by_cases q:(N[j]!).2.1=(i:Int)
    · simp only [aF,aN (show (j:Int)<(N.length:Int) by omega),cond_true,gj,g,aB,gZ q,ap,aX (show j<1000000000 by omega),<- e]
    · have q2:(N[j]!).2.2=(i:Int):=hb.resolve_left q
      simp only [aF,aN (show (j:Int)<(N.length:Int) by omega),cond_true,gj,g,aB,gI q,cond_false,gZ q2,ap,aX (show j<1000000000 by omega),<- e]
  · have ne:mQ N i≠j:=fun q=>by
     by_cases hr:(i:Int)=r
     · have:=p.1 hr;omega
     · have:=(p.2.1 hr).2.1
       rw [q] at this;exact hb this
    have n1: ¬(N[j]!).2.1=(i:Int):=fun q=>hb (.inl q)
    have n2: ¬(N[j]!).2.2=(i:Int):=fun q=>hb (.inr q)
    have e:(if mQ N i<j+1 then [((N[i]!).1,(N[mQ N i]!).1)] else [])=(if mQ N i<j then [((N[i]!).1,(N[mQ N i]!).1)] else []):=by
     by_cases q:mQ N i<j
     · rw [if_pos q,if_pos (by omega)]
     · rw [if_neg q,if_neg (by omega)]
    simp only [aF,aN (show (j:Int)<(N.length:Int) by omega),cond_true,gj,aB,gI n1,gI n2,cond_false,aX (show j<1000000000 by omega),e])
 have e0:(if mQ N i<0 then [((N[i]!).1,(N[mQ N i]!).1)] else [])=[]:=if_neg (Nat.not_lt_zero _)
 rw [e0,List.append_nil] at key;rw [show aH qB ((i:Int),0,r,N,bS N i)=_ from key];refine aJ ?_;unfold qB;simp only [aF,aL (show¬(N.length:Int)<(N.length:Int) by omega),cond_false,aX (show i<1000000000 by omega)]
 rfl
theorem ZC (h:hO f t N r) (hN:N.length<=1000):C0 ⟨r,N⟩=some (bS N N.length):=by
 have k:=bV (body:=uM) (fun i=>((i:Int),r,N,bS N i)) N.length (fun i hi=>by
  unfold uM;simp only [aF,aN (show (i:Int)<(N.length:Int) by omega),cond_true]
  exact aJM h hN hi)
 unfold C0;rw [show aH uM (0,r,N,[])=_ from k];refine aJ ?_;unfold uM;simp only [aF,aL (show¬(N.length:Int)<(N.length:Int) by omega),cond_false]
end
end Go.Proofs.YthljmpcakagceaaGreat
namespace Go.Proofs.YthljmpcakagceaaGreat
open Go.Vm Classical
noncomputable def oP (f:List Pt) (es:List (Int×Int)):Int:=if¬(∀x∈es,fQ x) then 8 else if¬es.Nodup then 14 else if¬(∀x∈es,kG f x) then 6 else 0
def rP (c:aQ) (f:List Pt) (es:List (Int×Int)) (i:Nat):=
 (es,es,(es.length:Int),(i:Int),c.now.1,c.now.2,c.field.points,c.certs.next_,c.certs.list,c.agenda.slots.uses,c.agenda.slots.used,c.agenda.slots.free,c.agenda.heap,c.agenda.where_,c.due,f,(0:Int),(0:Int),(0:Int))
theorem NA {c:aQ} (ok:bF c) {f:List Pt} (fok:bQ f) {es:List (Int×Int)} (hl:es.length<=1000) {r:aQ×Int} (hr:oP f es=0->uG c ⟨f⟩ es=some r):
 iU c ⟨f⟩ es=some (if oP f es=0 then r else (dC,oP f es)):=by
 have bd:=ok.bd;have ab:=ok.agd.bd;have sl:=ok.agd.so.fl;have sn:=ok.agd.so.n2;have su:=ok.agd.so.ul;have el:decide ((es.length:Int)<(es.length:Int))=false:=aL (by omega)
 have hc:gY c=some 0:=by rw [nY ok.fit,if_pos ok]
 have hf:dE ⟨f⟩=some 0:=by rw [gE];exact congrArg some (fO.2 fok)
 have tw:wN (aQ.mk (c.now.1,c.now.2) (Field.mk c.field.points) (aV.mk c.certs.next_ c.certs.list) (aI.mk (aS.mk c.agenda.slots.uses c.agenda.slots.used c.agenda.slots.free) c.agenda.heap c.agenda.where_) c.due)=some c:=by
  unfold wN;simp only [aY (show c.field.points.length<=1048576 by omega),aY (show c.certs.list.length<=1048576 by omega),aY (show c.due.length<=1048576 by omega),aY (show c.agenda.heap.length<=1048576 by omega),aY (show c.agenda.where_.length<=1048576 by omega),
   aY (show c.agenda.slots.uses.length<=1048576 by omega),aY (show c.agenda.slots.used.length<=1048576 by omega),aY (show c.agenda.slots.free.length<=1048576 by omega),aB]
 have k3: ∀e2:aQ×Int,aH eJ (rP c f es 0)=some (.done e2)->aH eK (rP c f es 0)=some (if∀i,i<es.length->fQ es[i]! then e2 else (dC,8)):=by
  intro e2 h2;refine QZ (body:=eK) (fun i=>rP c f es i) es.length (fun i=>fQ es[i]!) (r:=(dC,8)) (e:=e2) (fun i hi=>?_) ?_
  · have e1:decide ((i:Int)<(es.length:Int))=true:=aN (by omega)
    unfold eK rP fQ;simp only [e1,cond_true,aD es i hi,aB,aX (show i<1000000000 by omega)]
    generalize es[i]! =x
    by_cases a1:x.1<0
    · rw [aN a1];exact ⟨fun _=>rfl,fun h=>by omega⟩
    rw [aL a1]
    by_cases a2:x.2<0
    · rw [aN a2];exact ⟨fun _=>rfl,fun h=>by omega⟩
    rw [aL a2]
    by_cases a3:65535<x.1
    · rw [aN a3];exact ⟨fun _=>rfl,fun h=>by omega⟩
    rw [aL a3]
    by_cases a4:65535<x.2
    · rw [aN a4];exact ⟨fun _=>rfl,fun h=>by omega⟩
    rw [aL a4]
    by_cases a5:x.1=x.2
    · rw [gZ a5];exact ⟨fun _=>rfl,fun h=>absurd a5 h.2.2.2.2⟩
    · rw [gI a5];exact ⟨fun h=>absurd ⟨by omega,by omega,by omega,by omega,a5⟩ h,fun _=>rfl⟩
  · unfold eK rP
    simp only [aF,el,cond_false];exact h2
 have k2: ∀e1:aQ×Int,aH fE (rP c f es 0)=some (.done (.done e1))->aH eJ (rP c f es 0)=some (.done (if∀i,i<es.length->es[i]!∉es.take i then e1 else (dC,14))):=by
  intro e0 h2
  have:=QZ (body:=eJ) (fun i=>rP c f es i) es.length (fun i=>es[i]!∉es.take i) (r:= .done (dC,14)) (e:= .done e0) (fun i hi=>by
   have e1:decide ((i:Int)<(es.length:Int))=true:=aN (by omega)
   unfold eJ rP;simp only [e1,cond_true,aD es i hi,oO es i (by omega),aB,oZ _ _ (show (es.take i).length<=1000000 by rw [List.length_take];omega),aX (show i<1000000000 by omega)]
   by_cases h:es[i]!∈es.take i
   · rw [aN h];exact ⟨fun _=>rfl,fun k=>absurd h k⟩
   · rw [aL h];exact ⟨fun k=>absurd h k,fun _=>rfl⟩) (by
   unfold eJ rP;simp only [aF,el,cond_false];exact h2)
  refine this.trans ?_
  by_cases hb: ∀i,i<es.length->es[i]!∉es.take i
  · rw [if_pos hb,if_pos hb]
  · rw [if_neg hb,if_neg hb]
 have step1: ∀i,i<es.length->(¬kG f es[i]!->fE (rP c f es i)=some (.done (.done (.done (dC,6)))))/\(kG f es[i]!->fE (rP c f es i)=some (.next (rP c f es (i+1)))):=by
  intro i hi;have e1:decide ((i:Int)<(es.length:Int))=true:=aN (by omega)
  obtain ⟨p,e,a1,a2⟩:=EW fok (es[i]!).1;obtain ⟨q,g,b1,b2⟩:=EW fok (es[i]!).2;unfold fE rP kG;simp only [e1,cond_true,aD es i hi,aB,a1,b1,aX (show i<1000000000 by omega)]
  by_cases h1:vO f (es[i]!).1
  · rw [bP (a2.2 h1)]
    by_cases h2:vO f (es[i]!).2
    · rw [bP (b2.2 h2)]
      exact ⟨fun h=>absurd ⟨h1,h2⟩ h,fun _=>rfl⟩
    · rw [eA (fun h=>h2 (b2.1 h))]
      exact ⟨fun _=>rfl,fun h=>absurd h.2 h2⟩
  · rw [eA (fun h=>h1 (a2.1 h))]
    exact ⟨fun _=>rfl,fun h=>absurd h.1 h1⟩
 have start:iU c ⟨f⟩ es=aH eK (rP c f es 0):=by
  unfold iU;simp only [hc,aB,show ((0:Int) !=0)=false from rfl,cond_false,hf];rfl
 rw [start]
 by_cases h1: ∀x∈es,fQ x
 case neg=>
  have er:oP f es=8:=by unfold oP;rw [if_pos h1]
  rw [er,if_neg (by omega)]
  have:=dB (body:=eK) (fun i=>rP c f es i) es.length (fun i=> ¬fQ es[i]!) (r:=(dC,8)) (e:=r)
  have k3':=k3;rw [HF (P:=fQ)] at h1;obtain ⟨i,h⟩:=Classical.not_forall.1 h1;obtain ⟨hi,hx⟩:=Classical.not_imp.1 h;obtain ⟨m,m1,m2,m3⟩:=G0 (c:=fun i=> ¬fQ es[i]!) ⟨i,hi,hx⟩
  have go: ∀j,j<es.length->(¬fQ es[j]!->eK (rP c f es j)=some (.done (dC,8)))/\(fQ es[j]!->eK (rP c f es j)=some (.next (rP c f es (j+1)))):=by
   intro j hj;have e1:decide ((j:Int)<(es.length:Int))=true:=aN (by omega)
   unfold eK rP fQ;simp only [e1,cond_true,aD es j hj,aB,aX (show j<1000000000 by omega)]
   generalize es[j]! =x
   by_cases a1:x.1<0
   · rw [aN a1];exact ⟨fun _=>rfl,fun h=>by omega⟩
   rw [aL a1]
   by_cases a2:x.2<0
   · rw [aN a2];exact ⟨fun _=>rfl,fun h=>by omega⟩
   rw [aL a2]
   by_cases a3:65535<x.1
   · rw [aN a3];exact ⟨fun _=>rfl,fun h=>by omega⟩
   rw [aL a3]
   by_cases a4:65535<x.2
   · rw [aN a4];exact ⟨fun _=>rfl,fun h=>by omega⟩
   rw [aL a4]
   by_cases a5:x.1=x.2
   · rw [gZ a5];exact ⟨fun _=>rfl,fun h=>absurd a5 h.2.2.2.2⟩
   · rw [gI a5];exact ⟨fun h=>absurd ⟨by omega,by omega,by omega,by omega,a5⟩ h,fun _=>rfl⟩
  rw [bV (body:=eK) (fun i=>rP c f es i) m fun j hj=>(go j (by omega)).2 (Classical.not_not.1 (m3 j hj))]
  exact aJ ((go m m1).1 m2)
 have h1':=(HF (P:=fQ)).1 h1
 by_cases h2:es.Nodup
 case neg=>
  have er:oP f es=14:=by unfold oP;rw [if_neg (Classical.not_not.2 h1),if_pos h2]
  rw [er,if_neg (by omega)]
  have h2':=h2;rw [M7] at h2';obtain ⟨i,h⟩:=Classical.not_forall.1 h2';obtain ⟨hi,hx⟩:=Classical.not_imp.1 h;obtain ⟨m,m1,m2,m3⟩:=G0 (c:=fun i=> ¬es[i]!∉es.take i) ⟨i,hi,hx⟩
  have go: ∀j,j<es.length->(es[j]!∈es.take j->eJ (rP c f es j)=some (.done (.done (dC,14))))/\(es[j]!∉es.take j->eJ (rP c f es j)=some (.next (rP c f es (j+1)))):=by
   intro j hj;have e1:decide ((j:Int)<(es.length:Int))=true:=aN (by omega)
   unfold eJ rP;simp only [e1,cond_true,aD es j hj,oO es j (by omega),aB,oZ _ _ (show (es.take j).length<=1000000 by rw [List.length_take];omega),aX (show j<1000000000 by omega)]
   by_cases h:es[j]!∈es.take j
   · rw [aN h];exact ⟨fun _=>rfl,fun k=>absurd h k⟩
   · rw [aL h];exact ⟨fun k=>absurd k h,fun _=>rfl⟩
  have l2:aH eJ (rP c f es 0)=some (.done (dC,14)):=by
   rw [bV (body:=eJ) (fun i=>rP c f es i) m fun j hj=>(go j (by omega)).2 (Classical.not_not.1 (m3 j hj))]
   exact aJ ((go m m1).1 (Classical.not_not.1 m2))
  rw [k3 _ l2,if_pos h1']
 have h2':=M7.1 h2
 by_cases h3: ∀x∈es,kG f x
 case neg=>
  have er:oP f es=6:=by unfold oP;rw [if_neg (Classical.not_not.2 h1),if_neg (Classical.not_not.2 h2),if_pos h3]
  rw [er,if_neg (by omega)]
  have h3':=h3;rw [HF (P:=kG f)] at h3';obtain ⟨i,h⟩:=Classical.not_forall.1 h3';obtain ⟨hi,hx⟩:=Classical.not_imp.1 h;obtain ⟨m,m1,m2,m3⟩:=G0 (c:=fun i=> ¬kG f es[i]!) ⟨i,hi,hx⟩
  have l1:aH fE (rP c f es 0)=some (.done (.done (dC,6))):=by
   rw [bV (body:=fE) (fun i=>rP c f es i) m fun j hj=>(step1 j (by omega)).2 (Classical.not_not.1 (m3 j hj))]
   exact aJ ((step1 m m1).1 m2)
  rw [k3 _ (k2 _ l1),if_pos h1',if_pos h2']
 have h3':=(HF (P:=kG f)).1 h3;have er:oP f es=0:=by unfold oP;rw [if_neg (Classical.not_not.2 h1),if_neg (Classical.not_not.2 h2),if_neg (Classical.not_not.2 h3)]
 rw [er,if_pos rfl];have l1:aH fE (rP c f es 0)=some (.done (.done r)):=by
  rw [bV (body:=fE) (fun i=>rP c f es i) es.length fun j hj=>(step1 j hj).2 (h3' j hj)]
  refine aJ ?_;unfold fE rP;simp only [el,cond_false,tw,aB,hr er]
 rw [k3 _ (k2 _ l1),if_pos h1',if_pos h2']
end Go.Proofs.YthljmpcakagceaaGreat
namespace Go.Proofs.YthljmpcakagceaaGreat
open Go.Vm Classical
theorem aJN {f:List Pt} (fok:bQ f) {t:Int×Int} (r:cE t) (r64:qG t): ∃(root:Int) (N:List Nd),uD ⟨f⟩ t=some (⟨root,N⟩,bS N f.length)/\hO f t N root:=by
 have f1:=fok.1;obtain ⟨root,N,h1,h2⟩:=ZB fok r r64;have ln:=h2.len;have mk:CH (N.length:Int) (0:Int)=some (List.replicate N.length 0):=by
  unfold CH;rw [if_pos ⟨by omega,by omega⟩,Int.toNat_natCast]
 refine ⟨root,N,?_,h2⟩;unfold uD;simp only [h1,aB,aF,beq_self_eq_true,cond_true,mk,List.length_replicate];rw [<- ln];exact WV h2 (by omega)
theorem WX:qT=jF:=rfl
theorem ZD (r r':Int) (a b:List Nd) (hl:a.length<=1000000):qA ⟨r,a⟩ ⟨r',b⟩=some (decide (r=r'/\a=b)):=by
 unfold qA;simp only [aF]
 by_cases h0:r=r'
 case neg=>rw [eA h0,cond_true,aL (fun h=>h0 h.1)]
 rw [bP h0,cond_false]
 by_cases h:a.length=b.length
 case neg=>rw [eA (by omega),cond_true,aL (fun q=>h (by rw [q.2]))]
 rw [bP (by omega),cond_false]
 have key:=QZ (body:=rC) (fun i=>((i:Int),r,a,r',b)) a.length (fun i=>a[i]! =b[i]!) (r:=false) (e:=true) (fun i hi=>by
  unfold rC;simp only [aF,aN (show (i:Int)<(a.length:Int) by omega),cond_true,aD a i hi,aD b i (by omega),aB,aX (show i<1000000000 by omega)]
  rw [WK]
  by_cases q:a[i]! =b[i]!
  · rw [aN q];exact ⟨fun w=>absurd q w,fun _=>rfl⟩
  · rw [aL q];exact ⟨fun _=>rfl,fun w=>absurd w q⟩) (by
  unfold rC;simp only [aF,aL (show¬(a.length:Int)<(a.length:Int) by omega),cond_false])
 refine (show _=_ from key).trans ?_
 by_cases q:a=b
 · rw [if_pos (fun i _=>by rw [q]),aN ⟨h0,q⟩]
 · rw [if_neg (fun w=>q (C3 h w)),aL (fun w=>q w.2)]
theorem aJO (c:aQ) (es:List (Int×Int)) (h1:es.length<=1000000) (h2:c.certs.list.length<=1000000):
 uE c es=some (decide (es.length=c.certs.list.length/\ ∀i,i<c.certs.list.length->(c.certs.list[i]!).2∈es)):=by
 unfold uE eC eW;simp only [aF]
 by_cases h0:es.length=c.certs.list.length
 case neg=>rw [gI (by omega),cond_false,aL (fun q=>h0 q.1)]
 rw [gZ (by omega),cond_true]
 have key:=nV (body:=bL) (fun i=>(c.certs.list,es,(c.certs.list.length:Int),(i:Int))) c.certs.list.length (fun i=>(c.certs.list[i]!).2∉es) (fun i=>(i:Int)) (e:= -1) (fun i hi=>by
  unfold bL yO;simp only [aN (show (i:Int)<(c.certs.list.length:Int) by omega),cond_true,aD c.certs.list i hi,aB,oZ es _ h1,aX (show i<1000000000 by omega)]
  refine ⟨fun q=>?_,fun q=>?_⟩
  · rw [aL q];rfl
  · rw [aN (Classical.not_not.1 q)];rfl) (by
  unfold bL;simp only [aL (show¬(c.certs.list.length:Int)<(c.certs.list.length:Int) by omega),cond_false])
 by_cases hx: ∀i,i<c.certs.list.length->(c.certs.list[i]!).2∈es
 · rw [show aH bL (c.certs.list,es,(c.certs.list.length:Int),0)=_ from key.2 (fun i hi=>Classical.not_not.2 (hx i hi)),aB,aB,aL (by omega),aN ⟨h0,hx⟩]
   rfl
 · obtain ⟨i,hi⟩:=Classical.not_forall.1 hx
   obtain ⟨hi,hn⟩:=Classical.not_imp.1 hi;obtain ⟨m,m1,m2,m3⟩:=G0 (c:=fun i=>(c.certs.list[i]!).2∉es) ⟨i,hi,hn⟩
   rw [show aH bL (c.certs.list,es,(c.certs.list.length:Int),0)=_ from key.1 m m1 m2 m3,aB,aB,aN (by omega),aL (fun w=>hx w.2)]
   rfl
structure mR (k:bO):Prop where
 clk:bF k.clock
 tree:hO k.clock.field.points k.clock.now k.tree.nodes k.tree.root
 cert:(k.clock.certs.list.map fun x=>x.2).Perm (bS k.tree.nodes k.clock.field.points.length)
theorem J0 {c:aQ} (ok:bF c) {N:List Nd} {r:Int} (tr:hO c.field.points c.now N r):
 ((bS N c.field.points.length).length=c.certs.list.length/\ ∀i,i<c.certs.list.length->(c.certs.list[i]!).2∈bS N c.field.points.length)↔(c.certs.list.map fun x=>x.2).Perm (bS N c.field.points.length):=by
 have cl:(c.certs.list.map fun x=>x.2).length=c.certs.list.length:=List.length_map ..
 constructor
 · rintro ⟨h1,h2⟩
   refine FV (UF ok.crt) (fun x hx=>?_) (by omega)
   obtain ⟨i,hi,rfl⟩:=HG.2 hx;exact h2 i hi
 · intro h
   exact ⟨by rw [<- h.length_eq,cl],fun i hi=>h.mem_iff.1 (HG.1 ⟨i,hi,rfl⟩)⟩
theorem Q2 {c:aQ} (ok:bF c) {N:List Nd} {r:Int} (tr:hO c.field.points c.now N r):
 (c.certs.list.length=(bS N c.field.points.length).length/\ ∀i,i<(bS N c.field.points.length).length->wZ c.certs.list (bS N c.field.points.length)[i]!/\iL (nC c.field.points ((bS N c.field.points.length)[i]!).2) (nC c.field.points ((bS N c.field.points.length)[i]!).1) c.now)↔(c.certs.list.map fun x=>x.2).Perm (bS N c.field.points.length):=by
 have cl:(c.certs.list.map fun x=>x.2).length=c.certs.list.length:=List.length_map ..
 obtain ⟨_,nd,ld⟩:=tr.edges ok.fld;constructor
 · rintro ⟨h1,h2⟩
   refine (FV nd (fun x hx=>?_) (by omega)).symm
   obtain ⟨i,hi,rfl⟩:=bD.1 hx;exact HG.1 (h2 i hi).1
 · intro h
   exact ⟨by rw [<- h.length_eq,cl],fun i hi=>⟨HG.2 (h.mem_iff.2 (bG hi)),ld _ (bG hi)⟩⟩
theorem B0 {k:bO} (fit:uN k.clock):qV k=some (if mR k then 0 else 8):=by
 unfold qV;rw [nY fit,aB]
 by_cases ok:bF k.clock
 case neg=>rw [if_neg ok,if_neg (fun h=>ok h.clk)];rfl
 rw [if_pos ok,bP rfl,cond_false];have bd:=ok.bd;obtain ⟨r,N,h1,h2⟩:=aJN ok.fld ok.nowv ok.now64;have h1:uD k.clock.field k.clock.now=some (⟨r,N⟩,bS N k.clock.field.points.length):=h1;have same: ∀h:mR k,N=k.tree.nodes/\r=k.tree.root:=fun h=>h2.same ok.fld.2.2 h.tree
 rw [h1,aB]
 by_cases hr:r=k.tree.root
 case neg=>rw [eA hr,cond_true,if_neg (fun h=>hr (same h).2)]
 have ln:=h2.len;rw [bP hr,cond_false,WX,HD N k.tree.nodes (by omega),aB]
 by_cases hn:N=k.tree.nodes
 case neg=>rw [aL hn,if_neg (fun h=>hn (same h).1)];rfl
 have el:=oA N k.clock.field.points.length;rw [aN hn,Bool.not_true,cond_false];show (uE k.clock (bS N k.clock.field.points.length)).bind _=_;rw [aJO k.clock _ (by omega) (by omega),aB]
 have iff:=J0 ok h2
 by_cases hj:(bS N k.clock.field.points.length).length=k.clock.certs.list.length/\ ∀i,i<k.clock.certs.list.length->(k.clock.certs.list[i]!).2∈bS N k.clock.field.points.length
 · rw [aN hj,if_pos (show mR k from ⟨ok,by rw [<- hn,<- hr];exact h2,by rw [<- hn];exact iff.1 hj⟩)];rfl
 · rw [aL hj,if_neg (fun h:mR k=>hj (iff.2 (by rw [hn];exact h.cert)))];rfl
theorem DD {k:bO} (fit:uN k.clock):nT k=some (if mR k then 0 else 8):=by
 unfold nT;rw [M5 fit,aB]
 by_cases ok:bF k.clock
 case neg=>rw [if_neg ok,if_neg (fun h=>ok h.clk)];rfl
 rw [if_pos ok,bP rfl,cond_false];have bd:=ok.bd;obtain ⟨r,N,h1,h2⟩:=O2 ok.fld (t:=k.clock.now) ok.now64;have h1:sG k.clock.field k.clock.now=some ⟨r,N⟩:=h1;have same: ∀h:mR k,N=k.tree.nodes/\r=k.tree.root:=fun h=>h2.same ok.fld.2.2 h.tree
 have ln:=h2.len;have keta:k.tree=⟨k.tree.root,k.tree.nodes⟩:=rfl;rw [h1,aB,keta,ZD _ _ _ _ (by omega),aB]
 by_cases hn:r=k.tree.root/\N=k.tree.nodes
 case neg=>rw [aL hn,if_neg (fun h:mR k=>hn ⟨(same h).2,(same h).1⟩)];rfl
 have el:=oA N k.clock.field.points.length;obtain ⟨eok,_,_⟩:=h2.edges ok.fld;rw [aN hn,Bool.not_true,cond_false,ZC h2 (by omega),aB,ln,aJE ok _ eok.kn,aB]
 have iff:=Q2 ok h2
 by_cases hj:k.clock.certs.list.length=(bS N k.clock.field.points.length).length/\ ∀i,i<(bS N k.clock.field.points.length).length->wZ k.clock.certs.list (bS N k.clock.field.points.length)[i]!/\iL (nC k.clock.field.points ((bS N k.clock.field.points.length)[i]!).2) (nC k.clock.field.points ((bS N k.clock.field.points.length)[i]!).1) k.clock.now
 · rw [aN hj,if_pos (show mR k from ⟨ok,by rw [<- hn.1,<- hn.2];exact h2,by rw [<- hn.2];exact iff.1 hj⟩)];rfl
 · rw [aL hj,if_neg (fun h:mR k=>hj (iff.2 (by rw [hn.2];exact h.cert)))];rfl
structure BI (k:bO):Prop where
 c:O0 k.clock
 n:k.tree.nodes.length<=1000
theorem oB:BI ⟨dC,⟨0,[]⟩⟩:=⟨NL,Nat.zero_le _⟩
theorem DE {k:bO} (h:BI k):sH k k=some true:=by
 have hn:=h.n;unfold sH;rw [WN h.c,aB,cond_true,show qA k.tree k.tree=_ from ZD k.tree.root k.tree.root k.tree.nodes k.tree.nodes (by omega),aB,aN ⟨rfl,rfl⟩]
theorem UM {k:bO} (h:BI k):wJ k=some k:=by
 have hn:=h.n;unfold wJ AV;rw [WQ h.c,aB,aY (by omega),aB,aB]
theorem Q3 (k:bO):uB k=some true\/(uB k=some false/\BI k):=by
 unfold uB CU
 rcases UE k.clock with e|⟨e,sh⟩
 · rw [e];exact .inl rfl
 rw [e,aB,cond_false,aB,aF]
 by_cases h:70<k.tree.nodes.length
 · rw [aN (by omega)];exact .inl rfl
 · rw [aL (by omega)];exact .inr ⟨rfl,sh,by omega⟩
theorem WY {c:aQ} (ok:bF c) {f:List Pt} (fok:bQ f) {N:List Nd} {r:Int} (tr:hO f c.now N r):
 ∃R:aQ×Int,iU c ⟨f⟩ (bS N f.length)=some R/\mZ c ⟨f⟩ (bS N f.length)=some R/\(R.2=0/\Y7 c f (bS N f.length) R.1\/R=(dC,18)):=by
 have f1:=fok.1;obtain ⟨eok,nd,_⟩:=tr.edges fok;have el:=oA N f.length;obtain ⟨R,r1,r2,r3⟩:=aJB ok fok eok;have ee:oP f (bS N f.length)=0:=by
  unfold oP;rw [if_neg (Classical.not_not.2 eok.cv),if_neg (Classical.not_not.2 nd),if_neg (fun h=>h eok.kn)]
 have rn:=NA ok fok (es:=bS N f.length) (by omega) (fun _=>r1)
 rw [if_pos ee] at rn;exact ⟨R,rn,r2,r3⟩
end Go.Proofs.YthljmpcakagceaaGreat
namespace Go.Proofs.YthljmpcakagceaaGreat
open Go.Vm Classical
end Go.Proofs.YthljmpcakagceaaGreat
namespace Go.Proofs.YthljmpcakagceaaGreat
open Go.Vm Classical
theorem O4 {k:bO} (ok:mR k) {F:List Pt} (fok':bQ F): ∃(R:bO×Int) (r:Int) (N:List Nd) (S:aQ×Int),BI R.1/\nA k.clock ⟨F⟩=some R/\
 oI ⟨F⟩ k.clock.now=some (⟨r,N⟩,0)/\(jZ ⟨r,N⟩).bind (fun l=>iU k.clock ⟨F⟩ l)=some S/\
 R=(if S.2=0 then (⟨S.1,⟨r,N⟩⟩,0) else (⟨dC,⟨0,[]⟩⟩,S.2)):=by
 have f1:=fok'.1;obtain ⟨r,N,h1,h2⟩:=ZB fok' ok.clk.nowv ok.clk.now64;obtain ⟨r',N',g1,g2⟩:=O2 fok' (t:=k.clock.now) ok.clk.now64;obtain ⟨e1,e2⟩:=g2.same fok'.2.2 h2;subst e1 e2;have ln:=h2.len;obtain ⟨S,r1,r2,r3⟩:=WY ok.clk fok' h2;rw [<- ln] at r1 r2;have ee:=WW h2 (by omega)
 have eo:=ZC h2 (by omega)
 rcases r3 with ⟨q0,qq⟩|he
 · refine ⟨(⟨S.1,⟨r',N'⟩⟩,0),r',N',S,⟨qq.ok.short,by show N'.length<=1000;omega⟩,?_,h1,?_,?_⟩
   · unfold nA
     simp only [aB,g1,eo,r2,q0,show ((0:Int) !=0)=false from rfl,cond_false]
   · simp only [ee,aB,r1]
   · rw [if_pos q0]
 · refine ⟨(⟨dC,⟨0,[]⟩⟩,18),r',N',S,oB,?_,h1,?_,?_⟩
   · unfold nA
     simp only [aB,g1,eo,r2,he,show ((18:Int) !=0)=true from rfl,cond_true]
   · simp only [ee,aB,r1]
   · rw [he,if_neg (by decide)]
theorem UN {k:bO} {F:List Pt} {R:bO×Int} {r:Int} {N:List Nd} {S:aQ×Int} (h1:oI ⟨F⟩ k.clock.now=some (⟨r,N⟩,0)) (h2:(jZ ⟨r,N⟩).bind (fun l=>iU k.clock ⟨F⟩ l)=some S)
 (h3:R=(if S.2=0 then (⟨S.1,⟨r,N⟩⟩,0) else (⟨dC,⟨0,[]⟩⟩,S.2))):
 ((oI ⟨F⟩ k.clock.now).bind fun a2=>(jZ a2.1).bind fun l3=>(iU k.clock ⟨F⟩ l3).bind fun a4=>
  bif a4.2 !=0 then some (bO.mk (aQ.mk (0,0) (Field.mk []) (aV.mk 0 []) (aI.mk (aS.mk [] [] []) [] []) []) (mM.mk 0 []),a4.2) else some (bO.mk a4.1 a2.1,0))=some R:=by
 rw [h1,aB];cases he:jZ ⟨r,N⟩ with
 |none=>rw [he] at h2;cases h2
 |some l=>
  rw [he,aB] at h2;rw [aB,h2,aB,h3]
  by_cases c:S.2=0
  · rw [if_pos c,bP c];rfl
  · rw [if_neg c,eA c];rfl
theorem aAG {k:bO} (n:aAE k.clock) (sh:BI k) (p:Pt): ∃R:bO×Int,vS k p=some R/\vX k p=some R/\BI R.1:=by
 have fit:uN k.clock:=⟨n.now,⟨sh.c.s3,sh.c.h,sh.c.w,n.at64⟩,sh.c.d⟩;have c1:=B0 fit;have c2:=DD fit
 by_cases ok:mR k
 case neg=>
  rw [if_neg ok] at c1 c2;refine ⟨(⟨dC,⟨0,[]⟩⟩,8),?_,?_,oB⟩
  · unfold vS eL;rw [c1];rfl
  · unfold vX;rw [c2];rfl
 rw [if_pos ok] at c1 c2;have fok:=ok.clk.fld;rcases M9 fok p with ⟨e,e0,t1,t2⟩|⟨m,hm,hp,po,hlt,t1,t2⟩
 · have t1:mV k.clock.field p=some (⟨[]⟩,e):=t1
   have t2:mX k.clock.field p=some (⟨[]⟩,e):=t2;refine ⟨(⟨dC,⟨0,[]⟩⟩,e),?_,?_,oB⟩
   · unfold vS eL xR
     simp only [c1,aB,t1,show ((0:Int) !=0)=false from rfl,cond_false,eA e0,cond_true]
   · unfold vX
     simp only [c2,aB,t2,show ((0:Int) !=0)=false from rfl,cond_false,eA e0,cond_true]
 have t1:mV k.clock.field p=some (⟨HH k.clock.field.points m p⟩,0):=t1;have t2:mX k.clock.field p=some (⟨HH k.clock.field.points m p⟩,0):=t2;obtain ⟨R,r,N,S,s0,s1,s2,s3,s4⟩:=O4 ok (aJF fok po hm hlt);refine ⟨R,?_,?_,s0⟩
 · have:=UN s2 s3 s4
   unfold vS eL xR;simp only [c1,aB,t1,show ((0:Int) !=0)=false from rfl,cond_false];rw [this];rfl
 · unfold vX
   simp only [c2,aB,t2,show ((0:Int) !=0)=false from rfl,cond_false,s1]
theorem Q4 {k:bO} (n:aAE k.clock) (sh:BI k) (p:Pt): ∃R:bO×Int,oL k p=some R/\oM k p=some R/\BI R.1:=by
 have fit:uN k.clock:=⟨n.now,⟨sh.c.s3,sh.c.h,sh.c.w,n.at64⟩,sh.c.d⟩;have c1:=B0 fit;have c2:=DD fit
 by_cases ok:mR k
 case neg=>
  rw [if_neg ok] at c1 c2;refine ⟨(⟨dC,⟨0,[]⟩⟩,8),?_,?_,oB⟩
  · unfold oL dU;rw [c1];rfl
  · unfold oM;rw [c2];rfl
 rw [if_pos ok] at c1 c2;have fok:=ok.clk.fld;rcases HI fok p with ⟨e,e0,t1,t2⟩|⟨q,hq,he,po,t1,t2⟩
 · have t1:iQ k.clock.field p=some (⟨[]⟩,e):=t1
   have t2:iR k.clock.field p=some (⟨[]⟩,e):=t2;refine ⟨(⟨dC,⟨0,[]⟩⟩,e),?_,?_,oB⟩
   · unfold oL dU rG
     simp only [c1,aB,t1,show ((0:Int) !=0)=false from rfl,cond_false,eA e0,cond_true]
   · unfold oM
     simp only [c2,aB,t2,show ((0:Int) !=0)=false from rfl,cond_false,eA e0,cond_true]
 have t1:iQ k.clock.field p=some (⟨k.clock.field.points.set q p⟩,0):=t1;have t2:iR k.clock.field p=some (⟨k.clock.field.points.set q p⟩,0):=t2;obtain ⟨R,r,N,S,s0,s1,s2,s3,s4⟩:=O4 ok (aPq fok po hq he);refine ⟨R,?_,?_,s0⟩
 · have:=UN s2 s3 s4
   unfold oL dU rG;simp only [c1,aB,t1,show ((0:Int) !=0)=false from rfl,cond_false];rw [this];rfl
 · unfold oM
   simp only [c2,aB,t2,show ((0:Int) !=0)=false from rfl,cond_false,s1]
theorem DF (k:bO) (p q:Pt) (n:aAE k.clock):uW k p q=some true:=by
 unfold uW;rcases Q3 k with e|⟨e,sh⟩
 · rw [e];rfl
 rw [e,aB,cond_false,UM sh,aB];obtain ⟨R,r1,r2,r3⟩:=aAG n sh p;obtain ⟨S,s1,s2,s3⟩:=Q4 n sh q;rw [r1,aB,r2,aB,s1,aB,s2,aB,DE r3,aB,cond_true,gZ rfl,cond_true,DE s3,aB,cond_true,gZ rfl,cond_true,DE sh,aB]
end Go.Proofs.YthljmpcakagceaaGreat
namespace Go.Proofs.YthljmpcakagceaaGreat
open Go.Vm Classical
theorem aAE.of {c:aQ} (h1:RT.wf [.i .i64,.i .i64] c.now) (h2: ∀a∈c.agenda.heap,RT.wf [.i .i64,.i .i64,.i .i64,.i .i64,.i .i64] a):aAE c where
 now:=⟨P1 h1.1,P1 h1.2⟩
 at64 w hw:=by
  have:=h2 (c.agenda.heap[w]!) (by rw [getElem!_pos c.agenda.heap w hw];exact List.getElem_mem hw)
  exact ⟨P1 this.1,P1 this.2.1⟩
end Go.Proofs.YthljmpcakagceaaGreat
