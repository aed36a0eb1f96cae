/- Plain laws (4). -/
import Derived.Test.YthljmpcakagceaaGreatCQM3
import Derived.Test.YthljmpcakagceaaGreatCQS2
import Derived.Test.YthljmpcakagceaaGreatCVm3
namespace Go.Proofs.YthljmpcakagceaaGreat
open Go.Vm Classical
end Go.Proofs.YthljmpcakagceaaGreat
namespace Go.Proofs.YthljmpcakagceaaGreat
open Go.Vm Classical
end Go.Proofs.YthljmpcakagceaaGreat
namespace Go.Proofs.YthljmpcakagceaaGreat
open Go.Vm Classical
theorem QY (p q:Pt) (t:Int×Int):OK p q t=(p.2.1*t.2+p.2.2*t.1) - (q.2.1*t.2+q.2.2*t.1):=by
 rw [aJA,Int.sub_mul,Int.sub_mul];omega
theorem UF {p q r:Pt} {t:Int×Int} (h1:iO p q t) (h2:iO q r t):iO p r t:=by
 unfold iO at*;rw [QY] at*;generalize p.2.1*t.2+p.2.2*t.1=a at*;generalize q.2.1*t.2+q.2.2*t.1=b at*;generalize r.2.1*t.2+r.2.2*t.1=c at*;omega
theorem UG {p q:Pt} (t:Int×Int) (h:p.1≠q.1) (hn: ¬iO p q t):iO q p t:=by
 unfold iO at*;rw [QY] at*;generalize p.2.1*t.2+p.2.2*t.1=a at*;generalize q.2.1*t.2+q.2.2*t.1=b at*;omega
end Go.Proofs.YthljmpcakagceaaGreat
namespace Go.Proofs.YthljmpcakagceaaGreat
open Go.Vm Classical
theorem aCF {f:List Pt} (fok:bQ f) (k:Nat):bQ (f.eraseIdx k):=by
 refine ⟨Nat.le_trans (List.length_eraseIdx_le f k) fok.1,fun p hp=>fok.2.1 p (List.mem_of_mem_eraseIdx hp),?_⟩
 have h:=fok.2.2;intro i hi;have hl:=List.length_eraseIdx_le f k
 by_cases hk:k<f.length
 · have:=QV hk
   rw [A5,A5];split<;>split<;>exact gH h (by omega) (by omega)
 · rw [List.eraseIdx_of_length_le (by omega)] at hi ⊢
   exact h i hi
theorem UH {f:List Pt} (fok:bQ f) {k:Nat} (hk:k<f.length):lV ⟨f⟩ (f[k]!).1=some ((k:Int),0):=by
 have h1:=fok.1;have hc:dZ ⟨f⟩=some 0:=by rw [hO];exact congrArg some (fM.2 fok)
 have bs:=xR f (f[k]!).1 (by omega) (fun i j=>gH fok.2.2)
 unfold lV kI;rw [G9];simp only [hc,aB,show ((0:Int) !=0)=false from rfl,cond_false,bs.1 k hk rfl,Bool.not_true]
theorem NJ {f:List Pt} (fok:bQ f) {id:Int} (h: ¬sI f id):lV ⟨f⟩ id=some (0,6):=by
 have h1:=fok.1;have hc:dZ ⟨f⟩=some 0:=by rw [hO];exact congrArg some (fM.2 fok)
 have bs:=xR f id (by omega) (fun i j=>gH fok.2.2)
 obtain ⟨m,_,_,_,e⟩:=bs.2 (fun k hk he=>h ⟨k,hk,he⟩)
 unfold lV kI;rw [G9];simp only [hc,aB,show ((0:Int) !=0)=false from rfl,cond_false,e,Bool.not_false,cond_true]
theorem QZ:kJ=cW:=rfl
theorem WM {f:List Pt} (fok:bQ f) {k:Nat} (hk:k<f.length):kK ⟨f⟩ (f[k]!).1=some (⟨f.eraseIdx k⟩,0)/\AW ⟨f⟩ (f[k]!).1=some (⟨f.eraseIdx k⟩,0):=by
 have f1:=fok.1;constructor
 · obtain ⟨L,d1,d2⟩:=C2 f k hk
   unfold kK;rw [UH fok hk,aB,cA rfl,cond_false,bE (show f.length<=1048576 by omega),aB,aZ (show k<1000000000 by omega),QZ,d1,aB]
   show some (Field.mk (L.take (f.length-1)),(0:Int))=_;rw [d2]
 · have hc:gY ⟨f⟩=some 0:=by rw [rB];exact congrArg some (fM.2 fok)
   unfold AW;rw [hc,aB,cA rfl,cond_false,IS fok.2.2 (by omega) hk rfl,aB,aL (by omega),cond_false]
   unfold EK;generalize hn:(f[k]!).1=n;have key:=cE (body:=iX) (fun i=>(n,(i:Int),f,(f.take i).filter (fun x=>x.1 !=n))) f.length (fun i hi=>by
    have nx:(f.take (i+1)).filter (fun x=>x.1 !=n)=(f.take i).filter (fun x=>x.1 !=n)++(if (f[i]!).1 !=n then [f[i]!] else []):=by
     rw [fE hi,List.filter_append,List.filter_cons,List.filter_nil]
    have fl:((f.take i).filter (fun x=>x.1 !=n)).length<=200:=Nat.le_trans (List.length_filter_le _ _) (by rw [List.length_take];omega)
    unfold iX;simp only [aF,aN (show (i:Int)<(f.length:Int) by omega),cond_true,aD f i hi,aB,aZ (show i<1000000000 by omega),nx]
    by_cases h:(f[i]!).1=n
    · rw [cA h];simp
    · rw [dS h]
      simp only [cond_true,if_true,bZ (show ((f.take i).filter (fun x=>x.1 !=n)).length+[f[i]!].length<=1048576 by simp only [List.length_cons,List.length_nil];omega),aB])
   have fin:aH iX (n,(f.length:Int),f,(f.take f.length).filter (fun x=>x.1 !=n))=some ⟨f.eraseIdx k⟩:=aK (by
    unfold iX;simp only [aF,aL (show¬(f.length:Int)<(f.length:Int) by omega),cond_false,List.take_length]
    rw [HB hk (fun i j=>gH fok.2.2) hn])
   rw [show aH iX (n,0,f,[])=_ from key,fin,aB]
theorem Q0 {f:List Pt} (fok:bQ f) {id:Int} (h: ¬sI f id):kK ⟨f⟩ id=some (⟨[]⟩,6)/\AW ⟨f⟩ id=some (⟨[]⟩,6):=by
 constructor
 · unfold kK
   rw [NJ fok h];rfl
 · have hc:gY ⟨f⟩=some 0:=by rw [rB];exact congrArg some (fM.2 fok)
   unfold AW;rw [hc,aB,cA rfl,cond_false,M2 fok h];rfl
end Go.Proofs.YthljmpcakagceaaGreat
namespace Go.Proofs.YthljmpcakagceaaGreat
open Go.Vm Classical
def C5 (f:List Pt) (m:Nat) (p:Pt):List Pt:=f.take m++p::f.drop m
structure UI (f:List Pt) (p:Pt) (m:Nat):Prop where
 le:m<=f.length
 lo: ∀i,i<m->(f[i]!).1<p.1
 hi: ∀i,m<=i->i<f.length->p.1<(f[i]!).1
theorem UJ {f:List Pt} {m:Nat} (h:m<=f.length) (p:Pt):(C5 f m p).length=f.length+1:=by
 unfold C5;rw [List.length_append,List.length_cons,List.length_take,List.length_drop];omega
theorem OX {f:List Pt} {m:Nat} (h:m<=f.length) (p:Pt) (i:Nat):(C5 f m p)[i]! =if i<m then f[i]! else if i=m then p else f[i-1]!:=by
 have ht:(f.take m).length=m:=by rw [List.length_take];omega
 unfold C5;simp only [List.getElem!_eq_getElem?_getD]
 by_cases h1:i<m
 · rw [if_pos h1,List.getElem?_append_left (by omega),List.getElem?_take_of_lt h1]
 · rw [if_neg h1,List.getElem?_append_right (by omega),ht]
   by_cases h2:i=m
   · rw [if_pos h2,h2,Nat.sub_self];rfl
   · rw [if_neg h2,show i-m=(i-1-m)+1 by omega,List.getElem?_cons_succ,List.getElem?_drop,show m+(i-1-m)=i-1 by omega]
theorem aJD {f:List Pt} (fok:bQ f) {p:Pt} (po:gX p) {m:Nat} (h:UI f p m) (hl:f.length<64):bQ (C5 f m p):=by
 refine ⟨by rw [UJ h.le];omega,fun q hq=>?_,fun i hi=>?_⟩
 · rcases List.mem_append.1 hq with hq|hq
   · exact fok.2.1 q (List.mem_of_mem_take hq)
   · rcases List.mem_cons.1 hq with rfl|hq
     · exact po
     · exact fok.2.1 q (List.mem_of_mem_drop hq)
 · rw [UJ h.le] at hi
   rw [OX h.le,OX h.le];rcases Nat.lt_trichotomy (i+1) m with c|c|c
   · rw [if_pos (by omega),if_pos c];exact gH fok.2.2 (by omega) (by have:=h.le;omega)
   · rw [if_pos (by omega),if_neg (by omega),if_pos c];exact h.lo i (by omega)
   · rw [if_neg (show¬i+1<m by omega),if_neg (show¬i+1=m by omega),Nat.add_sub_cancel]
     by_cases d:i=m
     · rw [if_neg (by omega),if_pos d];exact h.hi i (by omega) (by omega)
     · rw [if_neg (by omega),if_neg d];exact gH fok.2.2 (by omega) (by omega)
theorem WN {f:List Pt} (fok:bQ f) {p:Pt} (h: ¬sI f p.1): ∃m,UI f p m/\kI ⟨f⟩ p.1=some ((m:Int),false):=by
 have h1:=fok.1;obtain ⟨m,a,b,c,e⟩:=(xR f p.1 (by omega) (fun i j=>gH fok.2.2)).2 (fun k hk he=>h ⟨k,hk,he⟩)
 refine ⟨m,⟨a,b,c⟩,?_⟩;unfold kI;rw [G9,e];rfl
theorem WQ {f:List Pt} (fok:bQ f) {id:Int} (h:sI f id): ∃k,k<f.length/\(f[k]!).1=id/\kI ⟨f⟩ id=some ((k:Int),true):=by
 have h1:=fok.1;obtain ⟨k,hk,he⟩:=h;refine ⟨k,hk,he,?_⟩;unfold kI;rw [G9,(xR f id (by omega) (fun i j=>gH fok.2.2)).1 k hk he];rfl
theorem aJE {f:List Pt} (_:bQ f) {p:Pt} {m:Nat} (h:UI f p m) (hl:f.length<64):aH fH (false,0,f,p.1,p.2.1,p.2.2,[])=some (⟨C5 f m p⟩,0):=by
 have hle:=h.le;have tl: ∀i,(f.take i).length<=64:=fun i=>by rw [List.length_take];omega
 have k1:=cE (body:=fH) (fun i=>(false,(i:Int),f,p.1,p.2.1,p.2.2,f.take i)) m (fun i hi=>by
  unfold fH;simp only [aF,aN (show (i:Int)<(f.length:Int) by omega),cond_true,Bool.not_false,aD f i (by omega),aB,aL (show¬p.1<(f[i]!).1 from Int.not_lt.2 (Int.le_of_lt (h.lo i hi))),cond_false,
   bZ (show (f.take i).length+[f[i]!].length<=1048576 by have:=tl i;simp only [List.length_cons,List.length_nil];omega),aZ (show i<1000000000 by omega),fE (show i<f.length by omega)])
 refine (show aH fH (false,0,f,p.1,p.2.1,p.2.2,[])=_ from k1).trans ?_;have pe:((p.1,p.2.1,p.2.2):Pt)=p:=rfl;rcases Nat.lt_or_ge m f.length with hm|hm
 · have s1:fH (false,(m:Int),f,p.1,p.2.1,p.2.2,f.take m)=some (.next (true,((m+1:Nat):Int),f,p.1,p.2.1,p.2.2,f.take m++[p]++[f[m]!])):=by
    unfold fH;simp only [aF,aN (show (m:Int)<(f.length:Int) by omega),cond_true,Bool.not_false,aD f m hm,aB,aN (h.hi m (Nat.le_refl _) hm),pe,
     bZ (show (f.take m).length+[p].length<=1048576 by have:=tl m;simp only [List.length_cons,List.length_nil];omega),
     bZ (show (f.take m++[p]).length+[f[m]!].length<=1048576 by have:=tl m;simp only [List.length_append,List.length_cons,List.length_nil];omega),aZ (show m<1000000000 by omega)]
   rw [aX s1];have k2:=cE (body:=fH) (fun i=>(true,((m+1+i:Nat):Int),f,p.1,p.2.1,p.2.2,f.take m++[p]++(f.drop m).take (i+1))) (f.length- (m+1)) (fun i hi=>by
    have ed:(f.drop m).take (i+1+1)=(f.drop m).take (i+1)++[f[m+1+i]!]:=by
     rw [fE (show i+1<(f.drop m).length by rw [List.length_drop];omega),sD];congr 3;omega
    unfold fH;simp only [aF,aN (show ((m+1+i:Nat):Int)<(f.length:Int) by omega),cond_true,Bool.not_true,cond_false,aD f (m+1+i) (by omega),aB,
     bZ (show (f.take m++[p]++(f.drop m).take (i+1)).length+[f[m+1+i]!].length<=1048576 by have:=tl m;simp only [List.length_append,List.length_take,List.length_drop,List.length_cons,List.length_nil] at this ⊢;omega),aZ (show m+1+i<1000000000 by omega),ed]
    rw [List.append_assoc (f.take m++[p]),show m+1+i+1=m+1+(i+1) by omega])
   have e0:(f.drop m).take (0+1)=[f[m]!]:=by
    have:=TN hm
    rw [show f.drop m=f[m]!::f.drop (m+1) by rw [getElem!_pos f m hm,List.getElem_cons_drop]];rfl
   rw [e0] at k2;refine (show aH fH (true,((m+1:Nat):Int),f,p.1,p.2.1,p.2.2,f.take m++[p]++[f[m]!])=_ from k2).trans (aK ?_);have ef:(f.drop m).take (f.length- (m+1)+1)=f.drop m:=List.take_of_length_le (by rw [List.length_drop];omega)
   rw [ef,show m+1+(f.length- (m+1))=f.length by omega]
   unfold fH C5;simp only [aF,aL (show¬(f.length:Int)<(f.length:Int) by omega),cond_false,Bool.not_true,List.append_assoc,List.singleton_append]
 · obtain rfl:m=f.length:=by omega
   refine aK ?_;unfold fH C5;simp only [aF,aL (show¬(f.length:Int)<(f.length:Int) by omega),cond_false,Bool.not_false,cond_true,pe,List.take_length,
    bZ (show f.length+[p].length<=1048576 by simp only [List.length_cons,List.length_nil];omega),aB,List.drop_length]
theorem M7 {f:List Pt} (fok:bQ f) (p:Pt):
 (∃e:Int,e≠0/\jT ⟨f⟩ p=some (⟨[]⟩,e)/\vL ⟨f⟩ p=some (⟨[]⟩,e))\/
 (∃m,UI f p m/\ ¬sI f p.1/\gX p/\f.length<64/\jT ⟨f⟩ p=some (⟨C5 f m p⟩,0)/\vL ⟨f⟩ p=some (⟨C5 f m p⟩,0)):=by
 have f1:=fok.1;have hc:dZ ⟨f⟩=some 0:=by rw [hO];exact congrArg some (fM.2 fok)
 have hc2:gY ⟨f⟩=some 0:=by rw [rB];exact congrArg some (fM.2 fok)
 by_cases po:gX p
 case neg=>
  refine .inl ⟨8,by decide,?_,?_⟩
  · unfold jT;rw [hc,aB,cA rfl,cond_false,jU,if_neg po];rfl
  · unfold vL;rw [hc2,aB,cA rfl,cond_false,nU,if_neg po];rfl
 by_cases hp:sI f p.1
 · obtain ⟨k,hk,he,e⟩:=WQ fok hp
   refine .inl ⟨14,by decide,?_,?_⟩
   · unfold jT;rw [hc,aB,cA rfl,cond_false,jU,if_pos po,aB,cA rfl,cond_false,e];rfl
   · unfold vL;rw [hc2,aB,cA rfl,cond_false,nU,if_pos po,aB,cA rfl,cond_false,IS fok.2.2 (by omega) hk he,aB,aN (show (0:Int)<=(k:Int) by omega)];rfl
 obtain ⟨m,hm,e⟩:=WN fok hp
 by_cases full:f.length=64
 · refine .inl ⟨18,by decide,?_,?_⟩
   · unfold jT;rw [hc,aB,cA rfl,cond_false,jU,if_pos po,aB,cA rfl,cond_false,e,aB,cond_false]
     simp only [aF,full];rfl
   · unfold vL;rw [hc2,aB,cA rfl,cond_false,nU,if_pos po,aB,cA rfl,cond_false,M2 fok hp,aB,aL (by decide),cond_false]
     simp only [aF,full];rfl
 · have hl:f.length<64:=by omega
   have hf:(Int.ofNat f.length==64)=false:=by simp only [aF,beq_eq_false_iff_ne];omega
   refine .inr ⟨m,hm,hp,po,hl,?_,?_⟩
   · have hi:DE f (m:Int) [p]=some (C5 f m p):=by
      unfold DE;rw [if_pos ⟨by omega,by have:=hm.le;simpa using this,rfl,by omega⟩]
      simp [C5]
     unfold jT;rw [hc,aB,cA rfl,cond_false,jU,if_pos po,aB,cA rfl,cond_false,e,aB,cond_false,hf,cond_false,bE (show f.length<=1048576 by omega),aB,hi,aB]
   · unfold vL
     rw [hc2,aB,cA rfl,cond_false,nU,if_pos po,aB,cA rfl,cond_false,M2 fok hp,aB,aL (by decide),cond_false,hf,cond_false]
     exact aJE fok hm hl
end Go.Proofs.YthljmpcakagceaaGreat
namespace Go.Proofs.YthljmpcakagceaaGreat
abbrev Nd:=Int×Int×Int
structure BQ (P:Nat->Nat->Prop) (a b i:Nat):Prop where
 lo:a<=i
 hi:i<b
 top: ∀j,a<=j->j<b->j≠i->P i j
inductive mQ (P:Nat->Nat->Prop) (N:List Nd):Nat->Nat->Int->Prop
 |nil {a b:Nat} (h:b<=a):mQ P N a b (-1)
 |node {a b i:Nat} (h:BQ P a b i) (l:mQ P N a i (N[i]!).2.1) (r:mQ P N (i+1) b (N[i]!).2.2):mQ P N a b (i:Int)
structure aCG (P:Nat->Nat->Prop) (n:Nat):Prop where
 tr: ∀i j k,i<n->j<n->k<n->P i j->P j k->P i k
 asy: ∀i j,i<n->j<n->P i j-> ¬P j i
 tot: ∀i j,i<n->j<n->i≠j-> ¬P i j->P j i
theorem BQ.one {P:Nat->Nat->Prop} {n a b i j:Nat} (o:aCG P n) (hb:b<=n) (h:BQ P a b i) (k:BQ P a b j):i=j:=by
 refine Classical.byContradiction fun hne=>?_
 have:=h.hi;have:=k.hi
 exact o.asy i j (by omega) (by omega) (h.top j k.lo k.hi (fun e=>hne e.symm)) (k.top i h.lo h.hi hne)
theorem mQ.link {P:Nat->Nat->Prop} {N:List Nd} {a b:Nat} {r:Int} (h:mQ P N a b r):(b<=a/\r= -1)\/(∃i:Nat,r=(i:Int)/\a<=i/\i<b):=by
 cases h with
 |nil h=>exact .inl ⟨h,rfl⟩
 |node h l r=>exact .inr ⟨_,rfl,h.lo,h.hi⟩
theorem mQ.unique {P:Nat->Nat->Prop} {n:Nat} (o:aCG P n) {N N':List Nd} {a b:Nat} {r:Int} (h:mQ P N a b r): ∀{r':Int},b<=n->mQ P N' a b r'->r=r'/\ ∀k,a<=k->k<b->(N[k]!).2=(N'[k]!).2:=by
 induction h with
 |nil h=>
  intro r' hb h';cases h' with
  |nil _=>exact ⟨rfl,fun k h1 h2=>by omega⟩
  |node t _ _=>have:=t.lo;have:=t.hi;omega
 | @node a b i h l r ihl ihr=>
  intro r' hb h';have lo:=h.lo;have hi:=h.hi;cases h' with
  |nil q=>omega
  | @node _ _ j t l' r'=>
   have e:=h.one o hb t;subst e;obtain ⟨e1,f1⟩:=ihl (by omega) l'
   obtain ⟨e2,f2⟩:=ihr hb r';refine ⟨rfl,fun k h1 h2=>?_⟩
   rcases Nat.lt_trichotomy k i with q|q|q
   · exact f1 k h1 q
   · subst q;exact Prod.ext e1 e2
   · exact f2 k (by omega) h2
theorem mQ.frame {P:Nat->Nat->Prop} {N N':List Nd} {a b:Nat} {r:Int} (h:mQ P N a b r):(∀k,a<=k->k<b->(N[k]!).2=(N'[k]!).2)->mQ P N' a b r:=by
 induction h with
 |nil h=>exact fun _=> .nil h
 | @node a b i h l r ihl ihr=>
  intro f;have lo:=h.lo;have hi:=h.hi;have e:=f i lo hi;refine .node h ?_ ?_
  · rw [<- e];exact ihl fun k h1 h2=>f k h1 (by omega)
  · rw [<- e];exact ihr fun k h1 h2=>f k (by omega) h2
theorem mQ.other {P Q:Nat->Nat->Prop} {n:Nat} (o:aCG Q n) {N:List Nd} {a b:Nat} {r:Int} (h:mQ P N a b r):b<=n->(∀k j:Nat,a<=k->k<b->a<=j->j<b->((N[k]!).2.1=(j:Int)\/(N[k]!).2.2=(j:Int))->Q k j)->mQ Q N a b r:=by
 induction h with
 |nil h=>exact fun _ _=> .nil h
 | @node a b i h l r ihl ihr=>
  intro hb q;have lo:=h.lo;have hi:=h.hi;have tl:=ihl (by omega) fun k j h1 h2 h3 h4=>q k j h1 (by omega) h3 (by omega)
  have tr:=ihr hb fun k j h1 h2 h3 h4=>q k j (by omega) h2 (by omega) h4
  refine .node ⟨lo,hi,fun j h1 h2 hne=>?_⟩ tl tr
  rcases Nat.lt_or_ge j i with hj|hj
  · generalize hr:(N[i]!).2.1=s at tl
    cases tl with
    |nil q=>omega
    | @node _ _ m t _ _=>
     have t1:=t.lo;have t2:=t.hi;have qm:=q i m lo hi t1 (by omega) (.inl hr)
     by_cases e:j=m
     · rw [e];exact qm
     · exact o.tr i m j (by omega) (by omega) (by omega) qm (t.top j h1 hj e)
  · generalize hr:(N[i]!).2.2=s at tr
    cases tr with
    |nil q=>omega
    | @node _ _ m t _ _=>
     have t1:=t.lo;have t2:=t.hi;have qm:=q i m lo hi (by omega) t2 (.inr hr)
     by_cases e:j=m
     · rw [e];exact qm
     · exact o.tr i m j (by omega) (by omega) (by omega) qm (t.top j (by omega) h2 e)
theorem mQ.kids {P:Nat->Nat->Prop} {N:List Nd} {a b:Nat} {r:Int} (h:mQ P N a b r): ∀k,a<=k->k<b-> ∀c:Int,((N[k]!).2.1=c\/(N[k]!).2.2=c)->c= -1\/ ∃j:Nat,c=(j:Int)/\a<=j/\j<b/\j≠k/\P k j/\r≠c:=by
 induction h with
 |nil h=>intro k h1 h2;omega
 | @node a b i h l r ihl ihr=>
  have lo:=h.lo;have hi:=h.hi;intro k h1 h2 c hc;rcases Nat.lt_trichotomy k i with q|q|q
  · rcases ihl k h1 q c hc with e|⟨j,e,j1,j2,j3,j4,_⟩
    · exact .inl e
    · exact .inr ⟨j,e,j1,by omega,j3,j4,by rw [e];omega⟩
  · subst q
    rcases hc with hc|hc
    · rcases l.link with ⟨_,e⟩|⟨j,e,j1,j2⟩
      · exact .inl (hc▸e)
      · exact .inr ⟨j,hc▸e,j1,by omega,by omega,h.top j j1 (by omega) (by omega),by rw [<- hc,e];omega⟩
    · rcases r.link with ⟨_,e⟩|⟨j,e,j1,j2⟩
      · exact .inl (hc▸e)
      · exact .inr ⟨j,hc▸e,by omega,j2,by omega,h.top j (by omega) j2 (by omega),by rw [<- hc,e];omega⟩
  · rcases ihr k (by omega) h2 c hc with e|⟨j,e,j1,j2,j3,j4,_⟩
    · exact .inl e
    · exact .inr ⟨j,e,by omega,j2,j3,j4,by rw [e];omega⟩
theorem mQ.up {P:Nat->Nat->Prop} {N:List Nd} {a b:Nat} {r:Int} (h:mQ P N a b r): ∀k:Nat,a<=k->k<b->(k:Int)≠r-> ∃j,a<=j/\j<b/\((N[j]!).2.1=(k:Int)\/(N[j]!).2.2=(k:Int))/\ ∀m,a<=m->m<b->((N[m]!).2.1=(k:Int)\/(N[m]!).2.2=(k:Int))->m=j:=by
 induction h with
 |nil h=>intro k h1 h2;omega
 | @node a b i h l r ihl ihr=>
  have lo:=h.lo;have hi:=h.hi;have lk:=l.kids;have rk:=r.kids;intro k h1 h2 hne;have hki:k≠i:=fun e=>hne (by rw [e])
  rcases Nat.lt_or_ge k i with q|q
  · by_cases er:(k:Int)=(N[i]!).2.1
    · refine ⟨i,lo,hi,.inl er.symm,fun m m1 m2 hm=>?_⟩
      rcases Nat.lt_trichotomy m i with w|w|w
      · rcases lk m m1 w _ hm with e|⟨j,e,_,_,_,_,hr⟩
        · omega
        · exact absurd er.symm hr
      · exact w
      · rcases rk m (by omega) m2 _ hm with e|⟨j,e,j1,_⟩<;>omega
    · obtain ⟨j,j1,j2,j3,j4⟩:=ihl k h1 q er
      refine ⟨j,j1,by omega,j3,fun m m1 m2 hm=>?_⟩
      rcases Nat.lt_trichotomy m i with w|w|w
      · exact j4 m m1 w hm
      · subst w
        rcases hm with hm|hm
        · exact absurd hm.symm er
        · rcases r.link with ⟨_,e⟩|⟨p,e,p1,p2⟩<;>omega
      · rcases rk m (by omega) m2 _ hm with e|⟨p,e,p1,_⟩<;>omega
  · by_cases er:(k:Int)=(N[i]!).2.2
    · refine ⟨i,lo,hi,.inr er.symm,fun m m1 m2 hm=>?_⟩
      rcases Nat.lt_trichotomy m i with w|w|w
      · rcases lk m m1 w _ hm with e|⟨j,e,_,j2,_⟩<;>omega
      · exact w
      · rcases rk m (by omega) m2 _ hm with e|⟨j,e,_,_,_,_,hr⟩
        · omega
        · exact absurd er.symm hr
    · obtain ⟨j,j1,j2,j3,j4⟩:=ihr k (by omega) h2 er
      refine ⟨j,by omega,j2,j3,fun m m1 m2 hm=>?_⟩
      rcases Nat.lt_trichotomy m i with w|w|w
      · rcases lk m m1 w _ hm with e|⟨p,e,_,p2,_⟩<;>omega
      · subst w
        rcases hm with hm|hm
        · rcases l.link with ⟨_,e⟩|⟨p,e,p1,p2⟩<;>omega
        · exact absurd hm.symm er
      · exact j4 m (by omega) m2 hm
end Go.Proofs.YthljmpcakagceaaGreat
namespace Go.Proofs.YthljmpcakagceaaGreat
inductive xS (P:Nat->Nat->Prop) (N:List Nd):Nat->Nat->Int->List Nat->Prop
 |nil {a b:Nat} (h:b<=a):xS P N a b (-1) []
 |cons {a b k:Nat} {es:List Nat} (h:BQ P a b k) (l:mQ P N a k (N[k]!).2.1) (r:xS P N (k+1) b (N[k]!).2.2 es):xS P N a b (k:Int) (k::es)
theorem xS.tree {P:Nat->Nat->Prop} {N:List Nd} {a b:Nat} {r:Int} {es:List Nat} (h:xS P N a b r es):mQ P N a b r:=by
 induction h with
 |nil h=>exact .nil h
 |cons h l r ih=>exact .node h l ih
theorem xS.mem {P:Nat->Nat->Prop} {N:List Nd} {a b:Nat} {r:Int} {es:List Nat} (h:xS P N a b r es): ∀e∈es,a<=e/\e<b:=by
 induction h with
 |nil h=>intro e he;cases he
 |cons h l r ih=>
  intro e he;have lo:=h.lo;have hi:=h.hi;rcases List.mem_cons.1 he with rfl|he
  · exact ⟨lo,hi⟩
  · have:=ih e he;omega
theorem gD {α:Type} [Inhabited α] (x:α) (l:List α) (i:Nat):(x::l)[i+1]! =l[i]!:=by simp
theorem nY {α:Type} [Inhabited α] (x:α) (l:List α):(x::l)[0]! =x:=by simp
theorem xS.chain {P:Nat->Nat->Prop} {N:List Nd} {a b:Nat} {r:Int} {es:List Nat} (h:xS P N a b r es): ∀i j,i<j->j<es.length->P es[i]! es[j]!:=by
 induction h with
 |nil h=>intro i j _ hj;cases hj
 | @cons a b k es h l r ih=>
  intro i j hij hj;cases j with
  |zero=>omega
  |succ j=>
   rw [gD];have hj:j<es.length:=by simpa using hj
   cases i with
   |zero=>
    rw [nY]
    have:=r.mem es[j]! (bF hj)
    exact h.top _ (by have:=h.lo;omega) this.2 (by omega)
   |succ i=>rw [gD];exact ih i j (by omega) hj
theorem xS.add {P:Nat->Nat->Prop} {N N':List Nd} {n:Nat} (o:aCG P n) {a b:Nat} {r:Int} {es:List Nat} (h:xS P N a b r es): ∀m,a<=b->b<n->m<=es.length->(∀j,j<m->P es[j]! b)->(∀j,m<=j->j<es.length-> ¬P es[j]! b)->
 (N'[b]!).2.1=(if m<es.length then (es[m]!:Int) else -1)->(N'[b]!).2.2= -1->
 (∀k,a<=k->k<b->(N'[k]!).2.1=(N[k]!).2.1/\((0<m/\k=es[m-1]!)->(N'[k]!).2.2=(b:Int))/\(¬(0<m/\k=es[m-1]!)->(N'[k]!).2.2=(N[k]!).2.2))->
 xS P N' a (b+1) (if m=0 then (b:Int) else r) (es.take m++[b]):=by
 induction h with
 | @nil a b h=>
  intro m hab hb hm _ _ hl hr _
  have:m=0:=by simpa using hm
  subst this;rw [if_pos rfl];have hl:(N'[b]!).2.1= -1:=hl;refine .cons ⟨hab,by omega,fun j h1 h2 h3=>by omega⟩ ?_ ?_
  · rw [hl];exact .nil h
  · rw [hr];exact .nil (by omega)
 | @cons a b k es h l r ih=>
  intro m hab hb hm hP hN hl hr hf;have lo:=h.lo;have hi:=h.hi;cases m with
  |zero=>
   rw [if_pos rfl];have hl:(N'[b]!).2.1=(k:Int):=by rw [hl,if_pos (by simp)];rfl
   have t:mQ P N a b (k:Int):= .node h l r.tree;have nk: ¬P k b:=hN 0 (Nat.le_refl _) (by simp)
   have kb:P b k:=o.tot k b (by omega) hb (by omega) nk
   refine .cons ⟨hab,by omega,fun j h1 h2 h3=>?_⟩ ?_ ?_
   · by_cases e:j=k
     · rw [e];exact kb
     · exact o.tr b k j hb (by omega) (by omega) kb (h.top j h1 (by omega) e)
   · rw [hl]
     refine t.frame fun j h1 h2=>?_
     obtain ⟨f1,_,f3⟩:=hf j h1 h2;exact Prod.ext f1.symm (f3 (by omega)).symm
   · rw [hr];exact .nil (by omega)
  |succ m=>
   rw [if_neg (by omega)]
   have hm:m<=es.length:=by simpa using hm
   have pk:P k b:=by have:=hP 0 (by omega);rwa [nY] at this
   have mem:=r.mem;have top:BQ P a (b+1) k:=⟨lo,by omega,fun j h1 h2 h3=>by
    by_cases e:j=b
    · rw [e];exact pk
    · exact h.top j h1 (by omega) h3⟩
   have lt:mQ P N' a k (N'[k]!).2.1:=by
    rw [(hf k lo hi).1];refine l.frame fun j h1 h2=>?_
    obtain ⟨f1,_,f3⟩:=hf j h1 (by omega)
    refine Prod.ext f1.symm (f3 (fun q=>?_)).symm
    have q2:=q.2;cases m with
    |zero=>rw [show 0+1-1=0 from rfl,nY] at q2;omega
    |succ m=>
     rw [show m+1+1-1=m+1 from rfl,gD] at q2
     have:=mem es[m]! (bF (by omega));omega
   have rt:=ih m (by omega) hb hm (fun j hj=>by have:=hP (j+1) (by omega);rwa [gD] at this) (fun j h1 h2=>by have:=hN (j+1) (by omega) (by simpa using h2);rwa [gD] at this)
    (by
     rw [hl]
     by_cases q:m<es.length
     · rw [if_pos q,if_pos (by simpa using q),gD]
     · rw [if_neg q,if_neg (by simpa using q)]) hr (fun j h1 h2=>by
     obtain ⟨f1,f2,f3⟩:=hf j (by omega) h2
     refine ⟨f1,fun q=>f2 ⟨by omega,?_⟩,fun q=>f3 (fun w=>q ?_)⟩
     · obtain ⟨q1,q2⟩:=q
       rw [show m+1-1=(m-1)+1 by omega,gD];exact q2
     · obtain ⟨_,w2⟩:=w
       cases m with
       |zero=>rw [show 0+1-1=0 from rfl,nY] at w2;omega
       |succ m=>rw [show m+1+1-1=m+1 from rfl,gD] at w2;exact ⟨by omega,w2⟩)
   rw [show (k::es).take (m+1)++[b]=k::(es.take m++[b]) from rfl];refine .cons top lt ?_;obtain ⟨_,f2,f3⟩:=hf k lo hi
   by_cases m0:m=0
   · subst m0
     rw [if_pos rfl] at rt;rw [f2 ⟨by omega,by rw [show 0+1-1=0 from rfl,nY]⟩]
     exact rt
   · rw [if_neg m0] at rt
     rw [f3 (fun w=>?_)]
     · exact rt
     · have w2:=w.2
       rw [show m+1-1=(m-1)+1 by omega,gD] at w2
       have:=mem es[m-1]! (bF (by omega));omega
end Go.Proofs.YthljmpcakagceaaGreat
namespace Go.Proofs.YthljmpcakagceaaGreat
open Go.Vm Classical
def NK (f:List Pt) (t:Int×Int) (i j:Nat):Prop:=iO f[i]! f[j]! t
theorem UK {p q:Pt} {t:Int×Int} (h:iO p q t): ¬iO q p t:=by
 unfold iO at*;rw [QY] at*;generalize p.2.1*t.2+p.2.2*t.1=a at*;generalize q.2.1*t.2+q.2.2*t.1=b at*;omega
theorem Q1 {f:List Pt} (h:gR f) (t:Int×Int):aCG (NK f t) f.length where
 tr:=fun _ _ _ _ _ _ h1 h2=>UF h1 h2
 asy:=fun _ _ _ _ h=>UK h
 tot:=fun _ _ hi hj hne hn=>UG t (fun e=>hne (wL h hi hj e)) hn
structure gS (f:List Pt) (t:Int×Int) (N:List Nd) (r:Int):Prop where
 len:N.length=f.length
 ids: ∀k,k<f.length->(N[k]!).1=(f[k]!).1
 tree:mQ (NK f t) N 0 f.length r
theorem gS.same {f:List Pt} (h:gR f) {t:Int×Int} {N N':List Nd} {r r':Int} (a:gS f t N r) (b:gS f t N' r'):N=N'/\r=r':=by
 obtain ⟨e1,e2⟩:=a.tree.unique (Q1 h t) (Nat.le_refl _) b.tree;refine ⟨CV (by rw [a.len,b.len]) fun k hk=>?_,e1⟩
 have hk:k<f.length:=by rw [<- a.len];exact hk
 exact Prod.ext (by rw [a.ids k hk,b.ids k hk]) (e2 k (Nat.zero_le _) hk)
def Below (N:List Nd) (k j:Nat):Prop:=(N[j]!).2.1=(k:Int)\/(N[j]!).2.2=(k:Int)
noncomputable def mR (N:List Nd) (k:Nat):Nat:=if h: ∃j,j<N.length/\Below N k j then h.choose else N.length
noncomputable def ET (N:List Nd) (k:Nat):List (Int×Int):=if mR N k<N.length then [((N[k]!).1,(N[mR N k]!).1)] else []
noncomputable def bO (N:List Nd):Nat->List (Int×Int)
 |0=>[]
 |k+1=>bO N k++ET N k
theorem mI (N:List Nd): ∀k,(bO N k).length<=k
 |0=>Nat.le_refl _
 |k+1=>by
  have:=mI N k
  rw [bO,List.length_append];unfold ET;split
  · simp only [List.length_singleton];omega
  · simp only [List.length_nil];omega
theorem FT {N:List Nd}: ∀{n:Nat} {e:Int×Int},e∈bO N n↔ ∃k,k<n/\mR N k<N.length/\e=((N[k]!).1,(N[mR N k]!).1)
 |0,e=>by
  constructor
  · intro h;cases h
  · rintro ⟨k,h,_⟩;omega
 |n+1,e=>by
  rw [bO,List.mem_append,FT];constructor
  · rintro (⟨k,h1,h2⟩|h)
    · exact ⟨k,by omega,h2⟩
    · unfold ET at h
      split at h
      · exact ⟨n,by omega,by assumption,List.mem_singleton.1 h⟩
      · cases h
  · rintro ⟨k,h1,h2,h3⟩
    by_cases q:k=n
    · subst q
      right;unfold ET;rw [if_pos h2,h3];exact List.mem_singleton.2 rfl
    · exact .inl ⟨k,by omega,h2,h3⟩
section
variable {f : List Pt} {t : Int × Int} {N : List Nd} {r : Int}
theorem gS.par (h:gS f t N r) {k:Nat} (hk:k<f.length):((k:Int)=r->mR N k=N.length)/\((k:Int)≠r->mR N k<N.length/\Below N k (mR N k)/\mR N k≠k/\NK f t (mR N k) k)/\ ∀m,m<N.length->Below N k m->m=mR N k:=by
 have ln:=h.len
 by_cases hr:(k:Int)=r
 · have none: ¬ ∃j,j<N.length/\Below N k j:=by
    rintro ⟨j,hj,hb⟩;rcases h.tree.kids j (Nat.zero_le _) (by omega) (k:Int) hb with e|⟨_,_,_,_,_,_,e⟩
    · omega
    · exact e hr.symm
   have e:mR N k=N.length:=by unfold mR;rw [dif_neg none]
   exact ⟨fun _=>e,fun q=>absurd hr q,fun m hm hb=>absurd ⟨m,hm,hb⟩ none⟩
 · obtain ⟨j,_,j2,j3,j4⟩:=h.tree.up k (Nat.zero_le _) hk hr
   have ex: ∃j,j<N.length/\Below N k j:=⟨j,by omega,j3⟩
   have e:mR N k=j:=by
    unfold mR;rw [dif_pos ex]
    have:=ex.choose_spec
    exact j4 _ (Nat.zero_le _) (by omega) this.2
   refine ⟨fun q=>absurd q hr,fun _=>?_,fun m hm hb=>by rw [e];exact j4 m (Nat.zero_le _) (by omega) hb⟩
   rw [e];refine ⟨by omega,j3,?_,?_⟩
   · rcases h.tree.kids j (Nat.zero_le _) j2 (k:Int) j3 with q|⟨i,q,_,_,q2,_⟩
     · omega
     · intro w;omega
   · rcases h.tree.kids j (Nat.zero_le _) j2 (k:Int) j3 with q|⟨i,q,_,_,_,q2,_⟩
     · omega
     · have:i=k:=by omega
       rw [<- this];exact q2
theorem gS.edges (fok:bQ f) (h:gS f t N r):HG f (bO N f.length)/\(bO N f.length).Nodup/\ ∀e∈bO N f.length,iO (nB f e.2) (nB f e.1) t:=by
 have ln:=h.len;have f1:=fok.1;have inf: ∀e∈bO N f.length,∃k j,k<f.length/\j<f.length/\j≠k/\NK f t j k/\e=((f[k]!).1,(f[j]!).1):=by
  intro e he;obtain ⟨k,k1,k2,k3⟩:=FT.1 he;have hp:=h.par k1;have hr:(k:Int)≠r:=fun q=>by have:=hp.1 q;omega
  obtain ⟨p1,p2,p3,p4⟩:=hp.2.1 hr;exact ⟨k,mR N k,k1,by omega,p3,p4,by rw [k3,h.ids k k1,h.ids (mR N k) (by omega)]⟩
 have hb: ∀e∈bO N f.length,kM f e:=fun e he=>by
  obtain ⟨k,j,k1,j1,_,_,rfl⟩:=inf e he;exact ⟨⟨k,k1,rfl⟩,⟨j,j1,rfl⟩⟩
 refine ⟨⟨Nat.le_trans (mI N _) (by omega),fun e he=>?_,hb⟩,?_,fun e he=>?_⟩
 · obtain ⟨⟨p1,p2⟩,q1,q2⟩:=And.intro (kA fok (hb e he).1) (kA fok (hb e he).2)
   obtain ⟨k,j,k1,j1,ne,_,rfl⟩:=inf e he
   have:(f[k]!).1≠(f[j]!).1:=fun q=>ne (wL fok.2.2 k1 j1 q).symm
   unfold gX at p1 q1;unfold fO;dsimp only at*;omega
 · have go: ∀n,n<=f.length->(bO N n).Nodup:=by
    intro n
    induction n with
    |zero=>exact fun _=>List.nodup_nil
    |succ n ih=>
     intro hn;rw [bO,List.nodup_append];refine ⟨ih (by omega),?_,fun x hx y hy e=>?_⟩
     · unfold ET;split
       · exact List.nodup_cons.2 ⟨List.not_mem_nil,List.nodup_nil⟩
       · exact List.nodup_nil
     · subst e
       obtain ⟨k,k1,_,k3⟩:=FT.1 hx;unfold ET at hy;split at hy
       · have hy:=List.mem_singleton.1 hy
         rw [k3] at hy;have e1:(N[k]!).1=(N[n]!).1:=(Prod.mk.inj hy).1;rw [h.ids k (by omega),h.ids n (by omega)] at e1
         have:=wL fok.2.2 (by omega) (by omega) e1
         omega
       · cases hy
   exact go _ (Nat.le_refl _)
 · obtain ⟨k,j,k1,j1,_,p,rfl⟩:=inf e he
   rw [HC fok.2.2 j1 rfl,HC fok.2.2 k1 rfl];exact p
end
end Go.Proofs.YthljmpcakagceaaGreat
namespace Go.Proofs.YthljmpcakagceaaGreat
open Go.Vm Classical
theorem aPf {f:List Pt} (fok:bQ f) {t:Int×Int} (r:cH t) (r64:qA t) {i j:Nat} (hi:i<f.length) (hj:j<f.length) (hne:i≠j):oF f[i]! f[j]! t=some (decide (NK f t i j),0):=by
 have ne:(f[i]!).1≠(f[j]!).1:=fun h=>hne (wL fok.2.2 hi hj h)
 rcases JY (fok.2.1 _ (bF hi)) (fok.2.1 _ (bF hj)) r64 r with h|⟨h,_⟩
 · rw [h,if_neg ne];rfl
 · exact absurd h ne
def eI (es:List Nat):List Int:=es.map fun e:Nat=>(e:Int)
theorem Y3 (E:List Int) (m:Nat) (x:Int) (h:m+1<=E.length):(iL E m [x]).length=E.length:=by
 unfold iL;simp only [List.length_append,List.length_take,List.length_drop,List.length_singleton];omega
theorem aCH (es:List Nat):(eI es).length=es.length:=List.length_map ..
theorem aJF (es:List Nat) {j:Nat} (h:j<es.length):(eI es)[j]! =(es[j]!:Int):=by
 rw [getElem!_pos (eI es) j (by rw [aCH];exact h),getElem!_pos es j h]
 exact List.getElem_map ..
theorem Y4 (es:List Nat) (m:Nat):eI (es.take m)=(eI es).take m:=List.map_take ..
def o2 (f:List Pt) (t:Int×Int) (e c:Nat) (i:Nat) (root:Int) (N:List Nd) (E:List Int):=
 (e,c,f,(f.length:Int),(i:Int),f,t.1,t.2,(0:Int),root,N,E)
def o1 (f:List Pt) (t:Int×Int) (e c:Nat) (i:Nat) (root:Int) (N:List Nd) (E:List Int) (left:Int):=
 (e,c,(i:Int),f,(f.length:Int),(i:Int),f,t.1,t.2,(0:Int),root,N,E,(f[i]!).1,(f[i]!).2.1,(f[i]!).2.2,(f[i]!).1,left,(-1:Int))
def yS (f:List Pt) (N:List Nd) (es:List Nat) (i m:Nat):List Nd:=
 (if m=0 then N else N.set es[m-1]! ((N[es[m-1]!]!).1,(N[es[m-1]!]!).2.1,(i:Int)))++[((f[i]!).1,if m<es.length then (es[m]!:Int) else -1,-1)]
theorem aRN {f:List Pt} (fok:bQ f) {t:Int×Int} (r:cH t) (r64:qA t) {i:Nat} (hi:i<f.length) {es:List Nat} (hes: ∀e∈es,e<i) {N:List Nd} (hN:N.length=i) {root:Int} {E:List Int} (hE:E.take es.length=eI es) (le:es.length<=E.length) (lE:E.length<=1000):
 ∀(e:Nat),e<=es.length->(∀j,e<=j->j<es.length-> ¬NK f t es[j]! i)->
  ∃(m:Nat) (E':List Int),m<=e/\(0<m->NK f t es[m-1]! i)/\(∀j,m<=j->j<es.length-> ¬NK f t es[j]! i)/\E'.take (m+1)=eI (es.take m++[i])/\m+1<=E'.length/\E'.length<=E.length+1/\
   aH qR (o1 f t e E.length i root N E (if e<es.length then (es[e]!:Int) else -1))=some (.next (o2 f t (m+1) E'.length (i+1) (if m=0 then (i:Int) else root) (yS f N es i m) E')):=by
 have f1:=fok.1;have sc:=aZ (show i<1000000000 by omega)
 have put: ∀m,m<=es.length-> ∃E':List Int,E'.take (m+1)=eI (es.take m++[i])/\m+1<=E'.length/\E'.length<=E.length+1/\
  ((m+1<=E.length->E'=iL E m [(i:Int)])/\(¬m+1<=E.length->E'=E.take m++[(i:Int)])):=by
  intro m hm;have tm:E.take m=eI (es.take m):=by rw [Y4,<- hE,List.take_take,Nat.min_eq_left hm]
  have ei:eI (es.take m++[i])=eI (es.take m)++[(i:Int)]:=List.map_append ..;have lm:(E.take m++[(i:Int)]).length=m+1:=by rw [List.length_append,List.length_take,List.length_singleton];omega
  by_cases h:m+1<=E.length
  · refine ⟨iL E m [(i:Int)],?_,?_,?_,fun _=>rfl,fun q=>absurd h q⟩
    · unfold iL
      rw [ei,<- tm,List.take_append_of_le_length (by omega),List.take_of_length_le (by omega)]
    · unfold iL;rw [List.length_append];omega
    · unfold iL;rw [List.length_append,lm,List.length_drop,List.length_singleton];omega
  · refine ⟨E.take m++[(i:Int)],?_,by omega,by omega,fun q=>absurd q h,fun _=>rfl⟩
    rw [List.take_of_length_le (by omega),ei,tm]
 have en: ∀(s:Nat),([(i:Int)]:List Int).length=1:=fun _=>rfl
 have ble_t: ∀{a b:Nat},a<=b->Nat.ble a b=true:=fun h=>Nat.ble_eq_true_of_le h
 have ble_f: ∀{a b:Nat},¬a<=b->Nat.ble a b=false:=fun h=>by
  cases hb:Nat.ble _ _ with
  |false=>rfl
  |true=>exact absurd (Nat.le_of_ble_eq_true hb) h
 intro e
 induction e with
 |zero=>
  intro _ hall;obtain ⟨E',e1,e2,e3,e4,e5⟩:=put 0 (Nat.zero_le _);refine ⟨0,E',Nat.le_refl _,fun h=>absurd h (Nat.lt_irrefl _),hall,e1,e2,e3,aK ?_⟩
  have ap: ∀x:Nd,bG N [x]=some (N++[x]):=fun x=>bZ (by rw [List.length_singleton];omega)
  have ap2:bG (E.take 0) [(i:Int)]=some (E.take 0++[(i:Int)]):=bZ (by rw [List.length_singleton,List.length_take];omega)
  unfold qR o1 o2 yS
  by_cases h:0+1<=E.length
  · simp only [aF,aL (show¬(0:Int)<((0:Nat):Int) by omega),cond_false,ap,aB,List.length_singleton,ble_t h,cond_true,Bool.not_false,Bool.and_self,sc,e4 h,if_true]
    rw [Y3 _ _ _ h]
  · simp only [aF,aL (show¬(0:Int)<((0:Nat):Int) by omega),cond_false,ap,aB,List.length_singleton,ble_f h,ap2,ble_t (Nat.zero_le E.length),cond_true,sc,e5 h,if_true]
    rfl
 |succ e ih=>
  intro he hall;have tk:E.take (e+1)=eI (es.take (e+1)):=by rw [Y4,<- hE,List.take_take,Nat.min_eq_left he]
  have lt:(eI (es.take (e+1))).length=e+1:=by rw [aCH,List.length_take];omega
  have ge:aO (E.take (e+1)) ((e:Nat):Int)=some (es[e]!:Int):=by
   rw [tk,aD _ e (by omega),aJF _ (by rw [List.length_take];omega),lM (by omega)]
  have ew:aA .i64 (((e+1:Nat):Int) -1)=((e:Nat):Int):=by rw [CU ⟨by omega,by omega⟩];omega
  have eb:es[e]!<i:=hes _ (bF (by omega))
  have gp:=aD f es[e]! (by omega)
  have ah:=aPf fok (t:=(t.1,t.2)) r r64 (i:=es[e]!) (j:=i) (by omega) hi (by omega)
  have gn:=aD N es[e]! (by omega)
  have peta:((f[i]!).1,(f[i]!).2.1,(f[i]!).2.2)=f[i]!:=rfl
  by_cases c:NK f t es[e]! i
  · rw [show decide (NK f (t.1,t.2) es[e]! i)=true from aN c] at ah
    obtain ⟨E',e1,e2,e3,e4,e5⟩:=put (e+1) he;refine ⟨e+1,E',Nat.le_refl _,fun _=>c,hall,e1,e2,e3,aK ?_⟩
    have ap: ∀(y x:Nd),bG (N.set es[e]! y) [x]=some (N.set es[e]! y++[x]):=fun y x=>bZ (by rw [List.length_singleton,List.length_set];omega)
    have ap2:bG (E.take (e+1)) [(i:Int)]=some (E.take (e+1)++[(i:Int)]):=bZ (by rw [List.length_singleton,List.length_take];omega)
    unfold qR o1 o2 yS;rw [show e+1-1=e from rfl,if_neg (Nat.succ_ne_zero e),if_neg (Nat.succ_ne_zero e)]
    by_cases h:e+1+1<=E.length
    · simp only [aF,aN (show (0:Int)<((e+1:Nat):Int) by omega),cond_true,ew,ge,aB,gp,peta,ah,gn,nT,ap,List.length_singleton,ble_t h,Bool.not_false,Bool.and_self,sc,e4 h]
      rw [Y3 _ _ _ h]
    · simp only [aF,aN (show (0:Int)<((e+1:Nat):Int) by omega),cond_true,ew,ge,aB,gp,peta,ah,gn,nT,ap,List.length_singleton,ble_f h,cond_false,ap2,ble_t (show e+1<=E.length by omega),sc,e5 h]
      rw [show (E.take (e+1)++[(i:Int)]).length=e+1+1 from by rw [List.length_append,List.length_take,List.length_singleton];omega]
  · rw [show decide (NK f (t.1,t.2) es[e]! i)=false from aL c] at ah
    obtain ⟨m,E',h1,h2,h3,h4,h5,h6,h7⟩:=ih (by omega) (fun j j1 j2=>by
     by_cases q:j=e
     · rw [q];exact c
     · exact hall j (by omega) j2)
    refine ⟨m,E',by omega,h2,h3,h4,h5,h6,?_⟩
    rw [if_pos (show e<es.length by omega)] at h7
    rw [<- h7];refine aX ?_;unfold qR o1;simp only [aF,aN (show (0:Int)<((e+1:Nat):Int) by omega),cond_true,ew,ge,aB,gp,peta,ah,cond_false,aN (show (0:Int)<=((e:Nat):Int) by omega),aN (show ((e:Nat):Int)<=(E.length:Int) by omega),Bool.and_self,Int.toNat_natCast]
end Go.Proofs.YthljmpcakagceaaGreat
namespace Go.Proofs.YthljmpcakagceaaGreat
open Go.Vm Classical
theorem aJG {f:List Pt} {N:List Nd} {es:List Nat} {i m:Nat} (hN:N.length=i) (hes: ∀e∈es,e<i) (hm:m<=es.length):
 (yS f N es i m).length=i+1/\(yS f N es i m)[i]! =((f[i]!).1,if m<es.length then (es[m]!:Int) else -1,-1)/\
 ∀k,k<i->((yS f N es i m)[k]!).1=(N[k]!).1/\((yS f N es i m)[k]!).2.1=(N[k]!).2.1/\((0<m/\k=es[m-1]!)->((yS f N es i m)[k]!).2.2=(i:Int))/\(¬(0<m/\k=es[m-1]!)->((yS f N es i m)[k]!).2.2=(N[k]!).2.2):=by
 unfold yS
 by_cases m0:m=0
 · rw [if_pos m0]
   refine ⟨by rw [List.length_append,hN];rfl,?_,fun k hk=>?_⟩
   · rw [hM (by omega),hN,Nat.sub_self];rfl
   · rw [gW (by omega)]
     exact ⟨rfl,rfl,fun q=>by omega,fun _=>rfl⟩
 · rw [if_neg m0]
   have hb:=hes _ (bF (show m-1<es.length by omega))
   refine ⟨by rw [List.length_append,List.length_set,hN];rfl,?_,fun k hk=>?_⟩
   · rw [hM (by rw [List.length_set];omega),List.length_set,hN,Nat.sub_self];rfl
   · rw [gW (by rw [List.length_set];omega),bC]
     by_cases q:k=es[m-1]!
     · rw [if_pos ⟨q,by omega⟩,q]
       exact ⟨rfl,rfl,fun _=>rfl,fun w=>absurd ⟨by omega,rfl⟩ w⟩
     · rw [if_neg (fun w=>q w.1)]
       exact ⟨rfl,rfl,fun w=>absurd w.2 q,fun _=>rfl⟩
theorem aRO {f:List Pt} (fok:bQ f) {t:Int×Int} (r:cH t) (r64:qA t): ∀(d i:Nat) (es:List Nat) (N:List Nd) (root:Int) (E:List Int),f.length-i<=d->i<=f.length->N.length=i->(∀k,k<i->(N[k]!).1=(f[k]!).1)->
 xS (NK f t) N 0 i root es->E.take es.length=eI es->es.length<=E.length->E.length<=i->
 ∃(root':Int) (N':List Nd),aH oG (o2 f t es.length E.length i root N E)=some (⟨root',N'⟩,0)/\gS f t N' root':=by
 have f1:=fok.1;have fin: ∀(es:List Nat) (N:List Nd) (root:Int) (E:List Int),N.length=f.length->(∀k,k<f.length->(N[k]!).1=(f[k]!).1)->xS (NK f t) N 0 f.length root es->
  ∃(root':Int) (N':List Nd),aH oG (o2 f t es.length E.length f.length root N E)=some (⟨root',N'⟩,0)/\gS f t N' root':=fun es N root E h1 h2 h3=>
  ⟨root,N,aK (by
   unfold oG o2;simp only [aL (show¬(f.length:Int)<(f.length:Int) by omega),cond_false]),⟨h1,h2,h3.tree⟩⟩
 intro d
 induction d with
 |zero=>
  intro i es N root E hd hi h1 h2 h3 _ _ _
  have:i=f.length:=by omega
  subst this;exact fin es N root E h1 h2 h3
 |succ d ih=>
  intro i es N root E hd hi h1 h2 h3 h4 h5 h6
  by_cases he:i=f.length
  · subst he;exact fin es N root E h1 h2 h3
  have hi':i<f.length:=by omega
  have o:=Q1 fok.2.2 t;have mem:=h3.mem;have hes: ∀e∈es,e<i:=fun e he=>(mem e he).2
  obtain ⟨m,E',m1,m2,m3,m4,m5,m6,m7⟩:=aRN fok r r64 hi' hes h1 (root:=root) h4 h5 (by omega) es.length (Nat.le_refl _) (fun j j1 j2=>by omega)
  rw [if_neg (Nat.lt_irrefl _)] at m7;have st:oG (o2 f t es.length E.length i root N E)=some (.next (o2 f t (m+1) E'.length (i+1) (if m=0 then (i:Int) else root) (yS f N es i m) E')):=by
   unfold oG
   conv=>lhs;unfold o2
   simp only [aN (show (i:Int)<(f.length:Int) by omega),cond_true,aD f i hi',aB]
   exact m7
  obtain ⟨a1,a2,a3⟩:=aJG (f:=f) h1 hes m1;have sp:=h3.add o (N':=yS f N es i m) m (Nat.zero_le _) hi' m1 (fun j hj=>by
   by_cases q:j=m-1
   · rw [q];exact m2 (by omega)
   · have hj':=hes _ (bF (show j<es.length by omega))
     have hm':=hes _ (bF (show m-1<es.length by omega))
     exact o.tr _ es[m-1]! _ (by omega) (by omega) hi' (h3.chain j (m-1) (by omega) (by omega)) (m2 (by omega))) m3
   (by rw [a2]) (by rw [a2]) (fun k _ hk=>by
    obtain ⟨_,b2,b3,b4⟩:=a3 k hk;exact ⟨b2,b3,b4⟩)
  have le:(es.take m++[i]).length=m+1:=by rw [List.length_append,List.length_take,List.length_singleton];omega
  rw [aX st]
  have:=ih (i+1) (es.take m++[i]) (yS f N es i m) (if m=0 then (i:Int) else root) E' (by omega) (by omega) a1 (fun k hk=>by
   by_cases q:k=i
   · rw [q,a2]
   · rw [(a3 k (by omega)).1];exact h2 k (by omega)) sp (by rw [le];exact m4) (by rw [le];exact m5) (by omega)
  rw [le] at this;exact this
theorem Y5 {f:List Pt} (fok:bQ f) {t:Int×Int} (r:cH t) (r64:qA t): ∃(root:Int) (N:List Nd),sB ⟨f⟩ t=some (⟨root,N⟩,0)/\gS f t N root:=by
 obtain ⟨root,N,h1,h2⟩:=aRO fok r r64 f.length 0 [] [] (-1) [] (by omega) (by omega) rfl (fun k hk=>by omega) (.nil (Nat.le_refl _)) rfl (Nat.le_refl _) (Nat.le_refl _)
 refine ⟨root,N,?_,h2⟩;have hc:dZ ⟨f⟩=some 0:=by rw [hO];exact congrArg some (fM.2 fok)
 unfold sB AS;rw [hc,aB,cA rfl,cond_false,gB r64,if_pos r,aB,aB,cA rfl,cond_false];exact h1
theorem aPg {f:List Pt} (fok:bQ f) {t:Int×Int} (r64:qA t) {a b:Nat} (hb:b<=f.length): ∀(d j best:Nat),b-j<=d->j<=b->BQ (NK f t) a j best-> ∃i:Nat,aH kB ((b:Int),(best:Int),(j:Int),f,t)=some (i:Int)/\BQ (NK f t) a b i:=by
 have f1:=fok.1;have o:=Q1 fok.2.2 t;have fin: ∀best:Nat,BQ (NK f t) a b best-> ∃i:Nat,aH kB ((b:Int),(best:Int),(b:Int),f,t)=some (i:Int)/\BQ (NK f t) a b i:=fun best h=>⟨best,aK (by
  unfold kB;simp only [aL (show¬(b:Int)<(b:Int) by omega),cond_false]),h⟩
 intro d
 induction d with
 |zero=>
  intro j best hd hj h
  have:j=b:=by omega
  subst this;exact fin best h
 |succ d ih=>
  intro j best hd hj h
  by_cases he:j=b
  · subst he;exact fin best h
  have h1:=h.lo;have h2:=h.hi;have sc:=aZ (show j<1000000000 by omega)
  have ld:=ME (fok.2.1 _ (bF (show j<f.length by omega))) (fok.2.1 _ (bF (show best<f.length by omega))) r64
  by_cases c:NK f t j best
  · rw [show decide (iO f[j]! f[best]! t)=true from aN c] at ld
    rw [aX (y:=((b:Int),(j:Int),((j+1:Nat):Int),f,t)) (by
     unfold kB;simp only [aN (show (j:Int)<(b:Int) by omega),cond_true,aL (show¬(best:Int)<0 by omega),cond_false,aD f j (by omega),aD f best (by omega),aB,ld,sc])]
    refine ih (j+1) j (by omega) (by omega) ⟨by omega,by omega,fun k k1 k2 k3=>?_⟩
    by_cases q:k=best
    · rw [q];exact c
    · exact o.tr j best k (by omega) (by omega) (by omega) c (h.top k k1 (by omega) q)
  · rw [show decide (iO f[j]! f[best]! t)=false from aL c] at ld
    rw [aX (y:=((b:Int),(best:Int),((j+1:Nat):Int),f,t)) (by
     unfold kB;simp only [aN (show (j:Int)<(b:Int) by omega),cond_true,aL (show¬(best:Int)<0 by omega),cond_false,aD f j (by omega),aD f best (by omega),aB,ld,sc])]
    refine ih (j+1) best (by omega) (by omega) ⟨h1,by omega,fun k k1 k2 k3=>?_⟩
    by_cases q:k=j
    · rw [q];exact o.tot j best (by omega) (by omega) (by omega) c
    · exact h.top k k1 (by omega) k3
theorem aPh {f:List Pt} (fok:bQ f) {t:Int×Int} (r64:qA t) {a b:Nat} (hab:a<b) (hb:b<=f.length): ∃i:Nat,vH ⟨f⟩ t (a:Int) (b:Int)=some (i:Int)/\BQ (NK f t) a b i:=by
 have f1:=fok.1;obtain ⟨i,h1,h2⟩:=aPg fok r64 hb (b- (a+1)) (a+1) a (by omega) (by omega) (show BQ (NK f t) a (a+1) a from ⟨by omega,by omega,fun k k1 k2 k3=>by omega⟩)
 refine ⟨i,?_,h2⟩;unfold vH;rw [aX (y:=((b:Int),(a:Int),((a+1:Nat):Int),f,t)) (by
  unfold kB;simp only [aN (show (a:Int)<(b:Int) by omega),cond_true,aN (show (-1:Int)<0 by omega),aZ (show a<1000000000 by omega)])]
 exact h1
theorem UL (f:List Pt) (t:Int×Int) (a:Nat):vH ⟨f⟩ t (a:Int) (a:Int)=some (-1):=by
 unfold vH;refine aK ?_;unfold kB;simp only [aL (show¬(a:Int)<(a:Int) by omega),cond_false]
theorem aJH {f:List Pt} (fok:bQ f) {t:Int×Int} (r64:qA t): ∀(d m a b:Nat) (N:List Nd),b-a<=d->d<m->a<=b->b<=f.length->N.length=f.length->
 ∃(r:Int) (N':List Nd),jC m (f,t.1,t.2,0,(a:Int),(b:Int),N)=some (r,N')/\N'.length=f.length/\(∀k:Nat,(N'[k]!).1=(N[k]!).1)/\(∀k:Nat,(k<a\/b<=k)->N'[k]! =N[k]!)/\mQ (NK f t) N' a b r:=by
 have f1:=fok.1;intro d
 induction d with
 |zero=>
  intro m a b N hd hm hab hb hN
  have:a=b:=by omega
  subst this;cases m with
  |zero=>omega
  |succ m=>
   refine ⟨-1,N,?_,hN,fun _=>rfl,fun _ _=>rfl,.nil (Nat.le_refl _)⟩
   show fJ _ _=_;unfold fJ;simp only [show ((t.1,t.2):Int×Int)=t from rfl,UL f t a,aB,aL (show¬(0:Int)<= -1 by omega),cond_false,beq_self_eq_true,cond_true]
 |succ d ih=>
  intro m a b N hd hm hab hb hN;cases m with
  |zero=>omega
  |succ m=>
  by_cases e:a=b
  · subst e
    refine ⟨-1,N,?_,hN,fun _=>rfl,fun _ _=>rfl,.nil (Nat.le_refl _)⟩
    show fJ _ _=_;unfold fJ;simp only [show ((t.1,t.2):Int×Int)=t from rfl,UL f t a,aB,aL (show¬(0:Int)<= -1 by omega),cond_false,beq_self_eq_true,cond_true]
  obtain ⟨i,t1,t2⟩:=aPh fok r64 (show a<b by omega) hb
  have lo:=t2.lo;have hi:=t2.hi;obtain ⟨l,N1,g1,g2,g3,g4,g5⟩:=ih m a i N (by omega) (by omega) lo (by omega) hN
  have gi:=aD N1 i (by omega)
  obtain ⟨rr,N2,k1,k2,k3,k4,k5⟩:=ih m (i+1) b (N1.set i ((N1[i]!).1,l,(N1[i]!).2.2)) (by omega) (by omega) (by omega) hb (by rw [List.length_set];exact g2)
  have gj:=aD N2 i (by omega)
  have n2i:N2[i]! =((N1[i]!).1,l,(N1[i]!).2.2):=by rw [k4 i (.inl (by omega)),bC,if_pos ⟨rfl,by omega⟩]
  have n3i:(N2.set i ((N2[i]!).1,(N2[i]!).2.1,rr))[i]! =((N1[i]!).1,l,rr):=by rw [bC,if_pos ⟨rfl,by omega⟩,n2i]
  have n3: ∀k,k≠i->(N2.set i ((N2[i]!).1,(N2[i]!).2.1,rr))[k]! =N2[k]!:=fun k hk=>by rw [bC,if_neg (fun w=>hk w.1)]
  have n1: ∀k,k≠i->(N1.set i ((N1[i]!).1,l,(N1[i]!).2.2))[k]! =N1[k]!:=fun k hk=>by rw [bC,if_neg (fun w=>hk w.1)]
  refine ⟨(i:Int),N2.set i ((N2[i]!).1,(N2[i]!).2.1,rr),?_,by rw [List.length_set];exact k2,fun k=>?_,fun k hk=>?_,?_⟩
  · show fJ _ _=_
    unfold fJ;simp only [show ((t.1,t.2):Int×Int)=t from rfl,t1,aB,aN (show (0:Int)<=(i:Int) by omega),cond_true,g1,gi,nT,aZ (show i<1000000000 by omega),k1,gj,List.length_set,k2,hN,beq_self_eq_true]
  · by_cases q:k=i
    · rw [q,n3i,<- g3 i]
    · rw [n3 k q,k3 k,n1 k q,g3 k]
  · rw [n3 k (by omega),k4 k (by omega),n1 k (by omega),g4 k (by omega)]
  · refine .node t2 ?_ ?_
    · rw [n3i]
      refine g5.frame fun k h1 h2=>?_
      rw [n3 k (by omega),k4 k (.inl (by omega)),n1 k (by omega)]
    · rw [n3i]
      refine k5.frame fun k h1 h2=>?_
      rw [n3 k (by omega)]
theorem aAz {f:List Pt} (fok:bQ f) {t:Int×Int} (r64:qA t): ∃(root:Int) (N:List Nd),rT ⟨f⟩ t=some ⟨root,N⟩/\gS f t N root:=by
 have f1:=fok.1
 let ini:Nat->List Nd:=fun i=>(f.take i).map fun p=>(p.1,0,0)
 have il: ∀i,i<=f.length->(ini i).length=i:=fun i hi=>by show (List.map _ _).length=_;rw [List.length_map,List.length_take];omega
 have key:=cE (body:=oT) (fun i=>((i:Int),f,t.1,t.2,0,0,ini i)) f.length (fun i hi=>by
  have nx:ini (i+1)=ini i++[((f[i]!).1,0,0)]:=by
   show List.map _ _=List.map _ _++_;rw [fE hi,List.map_append];rfl
  unfold oT;simp only [aF,aN (show (i:Int)<(f.length:Int) by omega),cond_true,aD f i hi,aB,aZ (show i<1000000000 by omega),nx]
  rw [bZ (by rw [il i (by omega),List.length_singleton];omega),aB])
 obtain ⟨r,N,g1,g2,g3,_,g5⟩:=aJH fok r64 f.length 1000000 0 f.length (ini f.length) (by omega) (by omega) (by omega) (Nat.le_refl _) (il _ (Nat.le_refl _))
 refine ⟨r,N,?_,⟨g2,fun k hk=>?_,g5⟩⟩
 · unfold rT FI
   rw [show aH oT (0,f,t.1,t.2,0,0,[])=_ from key];rw [aK (r:=(⟨r,N⟩:oM)) (by
    unfold oT;have g1':rS (f,t.1,t.2,0,0,(f.length:Int),ini f.length)=some (r,N):=g1;simp only [aF,aL (show¬(f.length:Int)<(f.length:Int) by omega),cond_false,g1',aB]),aB]
 · rw [g3 k]
   show (((f.take f.length).map fun p=>((p.1,0,0):Nd))[k]!).1=_
   rw [getElem!_pos _ k (by rw [List.length_map,List.length_take];omega),List.getElem_map,List.getElem_take,getElem!_pos f k hk]
end Go.Proofs.YthljmpcakagceaaGreat
namespace Go.Proofs.YthljmpcakagceaaGreat
open Go.Vm Classical
def BT (U:List Int) (c:Int) (i:Nat):List Int:=if 0<=c then U.set c.toNat (i:Int) else U
def WR (N:List Nd) (U:List Int):Nat->List Int
 |0=>U
 |i+1=>BT (BT (WR N U i) (N[i]!).2.1 i) (N[i]!).2.2 i
theorem C6 (U:List Int) (c:Int) (i:Nat):(BT U c i).length=U.length:=by unfold BT;split<;>simp
theorem BA (N:List Nd) (U:List Int): ∀i,(WR N U i).length=U.length
 |0=>rfl
 |i+1=>by rw [WR,C6,C6,BA N U i]
theorem OY (U:List Int) (c:Int) (i k:Nat) (hk:k<U.length):(BT U c i)[k]! =if c=(k:Int) then (i:Int) else U[k]!:=by
 unfold BT
 by_cases h:0<=c
 · rw [if_pos h,bC]
   by_cases q:c=(k:Int)
   · rw [if_pos ⟨by omega,by omega⟩,if_pos q]
   · rw [if_neg (fun w=>q (by omega)),if_neg q]
 · rw [if_neg h,if_neg (by omega)]
theorem aAA {α:Type} [Inhabited α] {n i:Nat} (a:α) (h:i<n):(List.replicate n a)[i]! =a:=by
 rw [getElem!_pos _ i (by rw [List.length_replicate];exact h),List.getElem_replicate]
section
variable {f : List Pt} {t : Int × Int} {N : List Nd} {r : Int}
theorem gS.link (h:gS f t N r) {j:Nat} (hj:j<f.length) {c:Int} (hc:(N[j]!).2.1=c\/(N[j]!).2.2=c):c= -1\/(0<=c/\c<N.length):=by
 have ln:=h.len;rcases h.tree.kids j (Nat.zero_le _) hj c hc with e|⟨k,e,_,k2,_⟩
 · exact .inl e
 · exact .inr ⟨by omega,by omega⟩
theorem gS.upIs (h:gS f t N r) {U:List Int} (hU:U.length=N.length): ∀i,i<=N.length-> ∀k,k<N.length->(WR N U i)[k]! =if mR N k<i then (mR N k:Int) else U[k]!
 |0,_,k,_=>by rw [if_neg (Nat.not_lt_zero _)];rfl
 |i+1,hi,k,hk=>by
  have ln:=h.len;have ih:=h.upIs hU i (by omega) k hk
  have p:=h.par (k:=k) (by omega)
  rw [WR,OY _ _ _ _ (by rw [C6,BA];omega),OY _ _ _ _ (by rw [BA];omega),ih]
  by_cases hb:Below N k i
  · have e:=p.2.2 i (by omega) hb
    rw [if_pos (show mR N k<i+1 by omega),<- e]
    rcases hb with q|q
    · by_cases w:(N[i]!).2.2=(k:Int)
      · rw [if_pos w]
      · rw [if_neg w,if_pos q]
    · rw [if_pos q]
  · have n1: ¬(N[i]!).2.1=(k:Int):=fun q=>hb (.inl q)
    have n2: ¬(N[i]!).2.2=(k:Int):=fun q=>hb (.inr q)
    rw [if_neg n2,if_neg n1];have ne:mR N k≠i:=fun q=>by
     by_cases hr:(k:Int)=r
     · have:=p.1 hr;omega
     · have:=(p.2.1 hr).2.1
       rw [q] at this;exact hb this
    by_cases q:mR N k<i
    · rw [if_pos q,if_pos (by omega)]
    · rw [if_neg q,if_neg (by omega)]
def m1S (N:List Nd) (r:Int) (i:Nat) (j:Int) (U:List Int):=((i:Int),N,(N.length:Int),(i:Int),(N[i]!).2.1,(N[i]!).2.2,j,(0:Int),r,N,U)
def m3S (N:List Nd) (r:Int) (i:Nat) (U:List Int):=(N,(N.length:Int),(i:Int),(0:Int),r,N,U)
theorem KD {U:List Int} {c:Int} (h0:0<=c) (h:c<U.length): ∃x,aO U c=some x:=⟨_,dP h0 h⟩
theorem KE {U:List Int} {c:Int} (h0:0<=c) (x:Int):cB U c x=U.set c.toNat x:=by
 obtain ⟨n,rfl⟩:=Int.eq_ofNat_of_zero_le h0;rw [nT,Int.toNat_natCast]
theorem aJI (h:gS f t N r) (hN:N.length<=1000) {i:Nat} (hi:i<N.length) {U:List Int} (hU:U.length=N.length):aH jG (m1S N r i 0 U)=some (.next (m3S N r (i+1) (BT (BT U (N[i]!).2.1 i) (N[i]!).2.2 i))):=by
 have ln:=h.len;have l1:=h.link (j:=i) (by omega) (.inl rfl)
 have l2:=h.link (j:=i) (by omega) (.inr rfl)
 have s1:jG (m1S N r i 0 U)=some (.next (m1S N r i 1 (BT U (N[i]!).2.1 i))):=by
  unfold jG m1S BT;simp only [aN (show (0:Int)<2 by omega),cond_true,beq_self_eq_true,show aA .i64 (0+1)=1 from CU ⟨by omega,by omega⟩]
  by_cases q:0<=(N[i]!).2.1
  · obtain ⟨x,hx⟩:=KD (U:=U) q (by omega)
    rw [aN q,cond_true,hx,aB,KE q,if_pos q]
  · rw [aL q,cond_false,if_neg q]
 have s2: ∀V:List Int,V.length=N.length->jG (m1S N r i 1 V)=some (.next (m1S N r i 2 (BT V (N[i]!).2.2 i))):=by
  intro V hV;unfold jG m1S BT;simp only [aN (show (1:Int)<2 by omega),cond_true,show ((1:Int)==0)=false from rfl,cond_false,beq_self_eq_true,show aA .i64 (1+1)=2 from CU ⟨by omega,by omega⟩]
  by_cases q:0<=(N[i]!).2.2
  · obtain ⟨x,hx⟩:=KD (U:=V) q (by omega)
    rw [aN q,cond_true,hx,aB,KE q,if_pos q]
  · rw [aL q,cond_false,if_neg q]
 rw [aX s1,aX (s2 _ (by rw [C6];exact hU))]
 refine aK ?_;unfold jG m1S m3S;simp only [aL (show¬(2:Int)<2 by omega),cond_false,aZ (show i<1000000000 by omega)]
theorem WT (h:gS f t N r) (hN:N.length<=1000):aH lG ((N.length:Int),0,0,r,N,List.replicate N.length 0)=some (⟨r,N⟩,bO N N.length):=by
 have ln:=h.len;have k4:=cE (body:=lG) (fun i=>((N.length:Int),(i:Int),(0:Int),r,N,List.replicate i (-1)++List.replicate (N.length-i) 0)) N.length (fun i hi=>by
  have ll:(List.replicate i (-1:Int)++List.replicate (N.length-i) 0).length=N.length:=by rw [List.length_append,List.length_replicate,List.length_replicate];omega
  have e:(List.replicate i (-1:Int)++List.replicate (N.length-i) 0).set i (-1)=List.replicate (i+1) (-1)++List.replicate (N.length- (i+1)) 0:=by
   rw [show N.length-i=(N.length- (i+1))+1 by omega,List.replicate_succ,List.set_append_right _ _ (by rw [List.length_replicate];exact Nat.le_refl _),List.length_replicate,Nat.sub_self,List.set_cons_zero,List.replicate_succ',List.append_assoc]
   rfl
  unfold lG;simp only [aN (show (i:Int)<(N.length:Int) by omega),cond_true,aD (List.replicate i (-1:Int)++List.replicate (N.length-i) 0) i (by omega),aB,nT,e,aZ (show i<1000000000 by omega)])
 have e0:List.replicate 0 (-1:Int)++List.replicate (N.length-0) 0=List.replicate N.length 0:=rfl;have e1:List.replicate N.length (-1:Int)++List.replicate (N.length-N.length) 0=List.replicate N.length (-1):=by rw [Nat.sub_self,List.replicate_zero,List.append_nil]
 rw [e0,e1] at k4;rw [show aH lG ((N.length:Int),0,0,r,N,List.replicate N.length 0)=_ from k4];have lU:(List.replicate N.length (-1:Int)).length=N.length:=List.length_replicate ..;have k3:=cE (body:=lF) (fun i=>m3S N r i (WR N (List.replicate N.length (-1)) i)) N.length (fun i hi=>by
  have g:=aD N i hi;unfold lF
  conv=>lhs;unfold m3S
  simp only [aN (show (i:Int)<(N.length:Int) by omega),cond_true,g,aB]
  exact aJI h hN hi (by rw [BA,lU]))
 have up:=h.upIs lU N.length (Nat.le_refl _);have k2:=cE (body:=lD) (fun i=>(N,(N.length:Int),(i:Int),(0:Int),r,N,WR N (List.replicate N.length (-1)) N.length,bO N i)) N.length (fun i hi=>by
  have g:=aD N i hi;have gu:=aD (WR N (List.replicate N.length (-1)) N.length) i (by rw [BA,lU];exact hi)
  have el:=mI N i;rw [up i hi] at gu;unfold lD;rw [show bO N (i+1)=bO N i++ET N i from rfl];unfold ET
  by_cases q:mR N i<N.length
  · rw [if_pos q] at gu
    simp only [aN (show (i:Int)<(N.length:Int) by omega),cond_true,g,gu,aB,aN (show (0:Int)<=(mR N i:Int) by omega),aD N (mR N i) q,aZ (show i<1000000000 by omega),if_pos q]
    rw [bZ (by rw [List.length_singleton];omega),aB]
  · rw [if_neg q,aAA (-1) hi] at gu
    simp only [aN (show (i:Int)<(N.length:Int) by omega),cond_true,g,gu,aB,aL (show¬(0:Int)<= -1 by omega),cond_false,aZ (show i<1000000000 by omega),if_neg q,List.append_nil])
 have f2:aH lD (N,(N.length:Int),0,0,r,N,WR N (List.replicate N.length (-1)) N.length,[])=some (.done (.done (⟨r,N⟩,bO N N.length))):=by
  rw [show aH lD (N,(N.length:Int),0,0,r,N,WR N (List.replicate N.length (-1)) N.length,[])=_ from k2];refine aK ?_;unfold lD;simp only [aL (show¬(N.length:Int)<(N.length:Int) by omega),cond_false]
 have f3:aH lF (m3S N r 0 (List.replicate N.length (-1)))=some (.done (⟨r,N⟩,bO N N.length)):=by
  rw [show aH lF (m3S N r 0 (List.replicate N.length (-1)))=_ from k3];refine aK ?_;unfold lF m3S;simp only [aF,aL (show¬(N.length:Int)<(N.length:Int) by omega),cond_false]
  exact f2
 refine aK ?_;unfold lG;simp only [aF,aL (show¬(N.length:Int)<(N.length:Int) by omega),cond_false]
 exact f3
def q1S (N:List Nd) (r:Int) (i:Nat) (j:Int) (U:List Int):=((i:Int),N,(N.length:Int),(i:Int),(N[i]!).2.1,(N[i]!).2.2,j,r,N,U)
def q3S (N:List Nd) (r:Int) (i:Nat) (U:List Int):=(N,(N.length:Int),(i:Int),r,N,U)
theorem aJJ (h:gS f t N r) (hN:N.length<=1000) {i:Nat} (hi:i<N.length) {U:List Int} (hU:U.length=N.length):aH jI (q1S N r i 0 U)=some (.next (q3S N r (i+1) (BT (BT U (N[i]!).2.1 i) (N[i]!).2.2 i))):=by
 have ln:=h.len;have l1:=h.link (j:=i) (by omega) (.inl rfl)
 have l2:=h.link (j:=i) (by omega) (.inr rfl)
 have s1:jI (q1S N r i 0 U)=some (.next (q1S N r i 1 (BT U (N[i]!).2.1 i))):=by
  unfold jI q1S BT;simp only [aN (show (0:Int)<2 by omega),cond_true,beq_self_eq_true,show aA .i64 (0+1)=1 from CU ⟨by omega,by omega⟩]
  by_cases q:0<=(N[i]!).2.1
  · obtain ⟨x,hx⟩:=KD (U:=U) q (by omega)
    rw [aN q,cond_true,hx,aB,KE q,if_pos q]
  · rw [aL q,cond_false,if_neg q]
 have s2: ∀V:List Int,V.length=N.length->jI (q1S N r i 1 V)=some (.next (q1S N r i 2 (BT V (N[i]!).2.2 i))):=by
  intro V hV;unfold jI q1S BT;simp only [aN (show (1:Int)<2 by omega),cond_true,show ((1:Int)==0)=false from rfl,cond_false,beq_self_eq_true,show aA .i64 (1+1)=2 from CU ⟨by omega,by omega⟩]
  by_cases q:0<=(N[i]!).2.2
  · obtain ⟨x,hx⟩:=KD (U:=V) q (by omega)
    rw [aN q,cond_true,hx,aB,KE q,if_pos q]
  · rw [aL q,cond_false,if_neg q]
 rw [aX s1,aX (s2 _ (by rw [C6];exact hU))]
 refine aK ?_;unfold jI q1S q3S;simp only [aL (show¬(2:Int)<2 by omega),cond_false,aZ (show i<1000000000 by omega)]
theorem WU (h:gS f t N r) (hN:N.length<=1000):pV ⟨r,N⟩=some (bO N N.length):=by
 have ln:=h.len;have lU:(List.replicate N.length (0:Int)).length=N.length:=List.length_replicate ..;have mk:zC (N.length:Int) (0:Int)=some (List.replicate N.length 0):=by
  unfold zC;rw [if_pos ⟨by omega,by omega⟩,Int.toNat_natCast]
 have k3:=cE (body:=nP) (fun i=>q3S N r i (WR N (List.replicate N.length 0) i)) N.length (fun i hi=>by
  have g:=aD N i hi;unfold nP
  conv=>lhs;unfold q3S
  simp only [aN (show (i:Int)<(N.length:Int) by omega),cond_true,g,aB]
  exact aJJ h hN hi (by rw [BA,lU]))
 have up:=h.upIs lU N.length (Nat.le_refl _);have k2:=cE (body:=lH) (fun i=>(N,(N.length:Int),(i:Int),r,N,WR N (List.replicate N.length 0) N.length,bO N i)) N.length (fun i hi=>by
  have g:=aD N i hi;have gu:=aD (WR N (List.replicate N.length 0) N.length) i (by rw [BA,lU];exact hi)
  have el:=mI N i;have p:=h.par (k:=i) (by omega)
  rw [up i hi] at gu;unfold lH;rw [show bO N (i+1)=bO N i++ET N i from rfl];unfold ET
  by_cases q:(i:Int)=r
  · have e:=p.1 q
    simp only [aN (show (i:Int)<(N.length:Int) by omega),cond_true,g,aB,cA q,cond_false,aZ (show i<1000000000 by omega),if_neg (show¬mR N i<N.length by omega),List.append_nil]
  · have e:=(p.2.1 q).1
    rw [if_pos e] at gu;simp only [aN (show (i:Int)<(N.length:Int) by omega),cond_true,g,aB,dS q,gu,aD N (mR N i) e,aZ (show i<1000000000 by omega),if_pos e]
    rw [bZ (by rw [List.length_singleton];omega),aB])
 have f2:aH lH (N,(N.length:Int),0,r,N,WR N (List.replicate N.length 0) N.length,[])=some (.done (bO N N.length)):=by
  rw [show aH lH (N,(N.length:Int),0,r,N,WR N (List.replicate N.length 0) N.length,[])=_ from k2];refine aK ?_;unfold lH;simp only [aL (show¬(N.length:Int)<(N.length:Int) by omega),cond_false]
 unfold pV;simp only [aF,beq_self_eq_true,cond_true,mk,aB];rw [show aH nP (N,(N.length:Int),0,r,N,List.replicate N.length 0)=_ from k3];refine aK ?_;unfold nP q3S;simp only [aF,aL (show¬(N.length:Int)<(N.length:Int) by omega),cond_false]
 exact f2
theorem aJK (h:gS f t N r) (hN:N.length<=1000) {i:Nat} (hi:i<N.length):aH pS ((i:Int),0,r,N,bO N i)=some (.next (((i+1:Nat):Int),r,N,bO N (i+1))):=by
 have ln:=h.len;have p:=h.par (k:=i) (by omega)
 have el:=mI N i;have g:=aD N i hi;have key:=cE (body:=pS) (fun j=>((i:Int),(j:Int),r,N,bO N i++(if mR N i<j then [((N[i]!).1,(N[mR N i]!).1)] else []))) N.length (fun j hj=>by
  have gj:=aD N j hj;unfold pS
  by_cases hb:Below N i j
  · have e:=p.2.2 j hj hb
    rw [if_neg (show¬mR N i<j by omega),if_pos (show mR N i<j+1 by omega),List.append_nil]
    have ap:bG (bO N i) [((N[i]!).1,(N[j]!).1)]=some (bO N i++[((N[i]!).1,(N[j]!).1)]):=bZ (by rw [List.length_singleton];omega)
    by_cases q:(N[j]!).2.1=(i:Int)
    · simp only [aF,aN (show (j:Int)<(N.length:Int) by omega),cond_true,gj,g,aB,gJ q,ap,aZ (show j<1000000000 by omega),<- e]
    · have q2:(N[j]!).2.2=(i:Int):=hb.resolve_left q
      simp only [aF,aN (show (j:Int)<(N.length:Int) by omega),cond_true,gj,g,aB,gK q,cond_false,gJ q2,ap,aZ (show j<1000000000 by omega),<- e]
  · have ne:mR N i≠j:=fun q=>by
     by_cases hr:(i:Int)=r
     · have:=p.1 hr;omega
     · have:=(p.2.1 hr).2.1
       rw [q] at this;exact hb this
    have n1: ¬(N[j]!).2.1=(i:Int):=fun q=>hb (.inl q)
    have n2: ¬(N[j]!).2.2=(i:Int):=fun q=>hb (.inr q)
    have e:(if mR N i<j+1 then [((N[i]!).1,(N[mR N i]!).1)] else [])=(if mR N i<j then [((N[i]!).1,(N[mR N i]!).1)] else []):=by
     by_cases q:mR N i<j
     · rw [if_pos q,if_pos (by omega)]
     · rw [if_neg q,if_neg (by omega)]
    simp only [aF,aN (show (j:Int)<(N.length:Int) by omega),cond_true,gj,aB,gK n1,gK n2,cond_false,aZ (show j<1000000000 by omega),e])
 have e0:(if mR N i<0 then [((N[i]!).1,(N[mR N i]!).1)] else [])=[]:=if_neg (Nat.not_lt_zero _)
 rw [e0,List.append_nil] at key;rw [show aH pS ((i:Int),0,r,N,bO N i)=_ from key];refine aK ?_;unfold pS;simp only [aF,aL (show¬(N.length:Int)<(N.length:Int) by omega),cond_false,aZ (show i<1000000000 by omega)]
 rfl
theorem aJL (h:gS f t N r) (hN:N.length<=1000):CI ⟨r,N⟩=some (bO N N.length):=by
 have k:=cE (body:=tT) (fun i=>((i:Int),r,N,bO N i)) N.length (fun i hi=>by
  unfold tT;simp only [aF,aN (show (i:Int)<(N.length:Int) by omega),cond_true]
  exact aJK h hN hi)
 unfold CI;rw [show aH tT (0,r,N,[])=_ from k];refine aK ?_;unfold tT;simp only [aF,aL (show¬(N.length:Int)<(N.length:Int) by omega),cond_false]
end
end Go.Proofs.YthljmpcakagceaaGreat
namespace Go.Proofs.YthljmpcakagceaaGreat
open Go.Vm Classical
noncomputable def mJ (f:List Pt) (es:List (Int×Int)):Int:=if¬(∀x∈es,fO x) then 8 else if¬es.Nodup then 14 else if¬(∀x∈es,kM f x) then 6 else 0
def rP (c:aQ) (f:List Pt) (es:List (Int×Int)) (i:Nat):=
 (es,es,(es.length:Int),(i:Int),c.now.1,c.now.2,c.field.points,c.certs.next_,c.certs.list,c.agenda.slots.uses,c.agenda.slots.used,c.agenda.slots.free,c.agenda.heap,c.agenda.where_,c.due,f,(0:Int),(0:Int),(0:Int))
theorem C7 {c:aQ} (ok:bH c) {f:List Pt} (fok:bQ f) {es:List (Int×Int)} (hl:es.length<=1000) {r:aQ×Int} (hr:mJ f es=0->nR c ⟨f⟩ es=some r):
 lX c ⟨f⟩ es=some (if mJ f es=0 then r else (fA,mJ f es)):=by
 have bd:=ok.bd;have ab:=ok.agd.bd;have sl:=ok.agd.so.fl;have sn:=ok.agd.so.n2;have su:=ok.agd.so.ul;have el:decide ((es.length:Int)<(es.length:Int))=false:=aL (by omega)
 have hc:hJ c=some 0:=by rw [nX ok.fit,if_pos ok]
 have hf:dZ ⟨f⟩=some 0:=by rw [hO];exact congrArg some (fM.2 fok)
 have tw:wE (aQ.mk (c.now.1,c.now.2) (Field.mk c.field.points) (aV.mk c.certs.next_ c.certs.list) (aI.mk (aR.mk c.agenda.slots.uses c.agenda.slots.used c.agenda.slots.free) c.agenda.heap c.agenda.where_) c.due)=some c:=by
  unfold wE;simp only [bE (show c.field.points.length<=1048576 by omega),bE (show c.certs.list.length<=1048576 by omega),bE (show c.due.length<=1048576 by omega),bE (show c.agenda.heap.length<=1048576 by omega),bE (show c.agenda.where_.length<=1048576 by omega),
   bE (show c.agenda.slots.uses.length<=1048576 by omega),bE (show c.agenda.slots.used.length<=1048576 by omega),bE (show c.agenda.slots.free.length<=1048576 by omega),aB]
 have k3: ∀e2:aQ×Int,aH eJ (rP c f es 0)=some (.done e2)->aH eK (rP c f es 0)=some (if∀i,i<es.length->fO es[i]! then e2 else (fA,8)):=by
  intro e2 h2;refine QX (body:=eK) (fun i=>rP c f es i) es.length (fun i=>fO es[i]!) (r:=(fA,8)) (e:=e2) (fun i hi=>?_) ?_
  · have e1:decide ((i:Int)<(es.length:Int))=true:=aN (by omega)
    unfold eK rP fO;simp only [e1,cond_true,aD es i hi,aB,aZ (show i<1000000000 by omega)]
    generalize es[i]! =x
    by_cases a1:x.1<0
    · rw [aN a1];exact ⟨fun _=>rfl,fun h=>by omega⟩
    rw [aL a1]
    by_cases a2:x.2<0
    · rw [aN a2];exact ⟨fun _=>rfl,fun h=>by omega⟩
    rw [aL a2]
    by_cases a3:65535<x.1
    · rw [aN a3];exact ⟨fun _=>rfl,fun h=>by omega⟩
    rw [aL a3]
    by_cases a4:65535<x.2
    · rw [aN a4];exact ⟨fun _=>rfl,fun h=>by omega⟩
    rw [aL a4]
    by_cases a5:x.1=x.2
    · rw [gJ a5];exact ⟨fun _=>rfl,fun h=>absurd a5 h.2.2.2.2⟩
    · rw [gK a5];exact ⟨fun h=>absurd ⟨by omega,by omega,by omega,by omega,a5⟩ h,fun _=>rfl⟩
  · unfold eK rP
    simp only [aF,el,cond_false];exact h2
 have k2: ∀e1:aQ×Int,aH fD (rP c f es 0)=some (.done (.done e1))->aH eJ (rP c f es 0)=some (.done (if∀i,i<es.length->es[i]!∉es.take i then e1 else (fA,14))):=by
  intro e0 h2
  have:=QX (body:=eJ) (fun i=>rP c f es i) es.length (fun i=>es[i]!∉es.take i) (r:= .done (fA,14)) (e:= .done e0) (fun i hi=>by
   have e1:decide ((i:Int)<(es.length:Int))=true:=aN (by omega)
   unfold eJ rP;simp only [e1,cond_true,aD es i hi,oI es i (by omega),aB,mZ _ _ (show (es.take i).length<=1000000 by rw [List.length_take];omega),aZ (show i<1000000000 by omega)]
   by_cases h:es[i]!∈es.take i
   · rw [aN h];exact ⟨fun _=>rfl,fun k=>absurd h k⟩
   · rw [aL h];exact ⟨fun k=>absurd h k,fun _=>rfl⟩) (by
   unfold eJ rP;simp only [aF,el,cond_false];exact h2)
  refine this.trans ?_
  by_cases hb: ∀i,i<es.length->es[i]!∉es.take i
  · rw [if_pos hb,if_pos hb]
  · rw [if_neg hb,if_neg hb]
 have step1: ∀i,i<es.length->(¬kM f es[i]!->fD (rP c f es i)=some (.done (.done (.done (fA,6)))))/\(kM f es[i]!->fD (rP c f es i)=some (.next (rP c f es (i+1)))):=by
  intro i hi;have e1:decide ((i:Int)<(es.length:Int))=true:=aN (by omega)
  obtain ⟨p,e,a1,a2⟩:=ES fok (es[i]!).1;obtain ⟨q,g,b1,b2⟩:=ES fok (es[i]!).2;unfold fD rP kM;simp only [e1,cond_true,aD es i hi,aB,a1,b1,aZ (show i<1000000000 by omega)]
  by_cases h1:sI f (es[i]!).1
  · rw [cA (a2.2 h1)]
    by_cases h2:sI f (es[i]!).2
    · rw [cA (b2.2 h2)]
      exact ⟨fun h=>absurd ⟨h1,h2⟩ h,fun _=>rfl⟩
    · rw [dS (fun h=>h2 (b2.1 h))]
      exact ⟨fun _=>rfl,fun h=>absurd h.2 h2⟩
  · rw [dS (fun h=>h1 (a2.1 h))]
    exact ⟨fun _=>rfl,fun h=>absurd h.1 h1⟩
 have start:lX c ⟨f⟩ es=aH eK (rP c f es 0):=by
  unfold lX;simp only [hc,aB,show ((0:Int) !=0)=false from rfl,cond_false,hf];rfl
 rw [start]
 by_cases h1: ∀x∈es,fO x
 case neg=>
  have er:mJ f es=8:=by unfold mJ;rw [if_pos h1]
  rw [er,if_neg (by omega)]
  have:=dE (body:=eK) (fun i=>rP c f es i) es.length (fun i=> ¬fO es[i]!) (r:=(fA,8)) (e:=r)
  have k3':=k3;rw [HH (P:=fO)] at h1;obtain ⟨i,h⟩:=Classical.not_forall.1 h1;obtain ⟨hi,hx⟩:=Classical.not_imp.1 h;obtain ⟨m,m1,m2,m3⟩:=G1 (c:=fun i=> ¬fO es[i]!) ⟨i,hi,hx⟩
  have go: ∀j,j<es.length->(¬fO es[j]!->eK (rP c f es j)=some (.done (fA,8)))/\(fO es[j]!->eK (rP c f es j)=some (.next (rP c f es (j+1)))):=by
   intro j hj;have e1:decide ((j:Int)<(es.length:Int))=true:=aN (by omega)
   unfold eK rP fO;simp only [e1,cond_true,aD es j hj,aB,aZ (show j<1000000000 by omega)]
   generalize es[j]! =x
   by_cases a1:x.1<0
   · rw [aN a1];exact ⟨fun _=>rfl,fun h=>by omega⟩
   rw [aL a1]
   by_cases a2:x.2<0
   · rw [aN a2];exact ⟨fun _=>rfl,fun h=>by omega⟩
   rw [aL a2]
   by_cases a3:65535<x.1
   · rw [aN a3];exact ⟨fun _=>rfl,fun h=>by omega⟩
   rw [aL a3]
   by_cases a4:65535<x.2
   · rw [aN a4];exact ⟨fun _=>rfl,fun h=>by omega⟩
   rw [aL a4]
   by_cases a5:x.1=x.2
   · rw [gJ a5];exact ⟨fun _=>rfl,fun h=>absurd a5 h.2.2.2.2⟩
   · rw [gK a5];exact ⟨fun h=>absurd ⟨by omega,by omega,by omega,by omega,a5⟩ h,fun _=>rfl⟩
  rw [cE (body:=eK) (fun i=>rP c f es i) m fun j hj=>(go j (by omega)).2 (Classical.not_not.1 (m3 j hj))]
  exact aK ((go m m1).1 m2)
 have h1':=(HH (P:=fO)).1 h1
 by_cases h2:es.Nodup
 case neg=>
  have er:mJ f es=14:=by unfold mJ;rw [if_neg (Classical.not_not.2 h1),if_pos h2]
  rw [er,if_neg (by omega)]
  have h2':=h2;rw [M5] at h2';obtain ⟨i,h⟩:=Classical.not_forall.1 h2';obtain ⟨hi,hx⟩:=Classical.not_imp.1 h;obtain ⟨m,m1,m2,m3⟩:=G1 (c:=fun i=> ¬es[i]!∉es.take i) ⟨i,hi,hx⟩
  have go: ∀j,j<es.length->(es[j]!∈es.take j->eJ (rP c f es j)=some (.done (.done (fA,14))))/\(es[j]!∉es.take j->eJ (rP c f es j)=some (.next (rP c f es (j+1)))):=by
   intro j hj;have e1:decide ((j:Int)<(es.length:Int))=true:=aN (by omega)
   unfold eJ rP;simp only [e1,cond_true,aD es j hj,oI es j (by omega),aB,mZ _ _ (show (es.take j).length<=1000000 by rw [List.length_take];omega),aZ (show j<1000000000 by omega)]
   by_cases h:es[j]!∈es.take j
   · rw [aN h];exact ⟨fun _=>rfl,fun k=>absurd h k⟩
   · rw [aL h];exact ⟨fun k=>absurd k h,fun _=>rfl⟩
  have l2:aH eJ (rP c f es 0)=some (.done (fA,14)):=by
   rw [cE (body:=eJ) (fun i=>rP c f es i) m fun j hj=>(go j (by omega)).2 (Classical.not_not.1 (m3 j hj))]
   exact aK ((go m m1).1 (Classical.not_not.1 m2))
  rw [k3 _ l2,if_pos h1']
 have h2':=M5.1 h2
 by_cases h3: ∀x∈es,kM f x
 case neg=>
  have er:mJ f es=6:=by unfold mJ;rw [if_neg (Classical.not_not.2 h1),if_neg (Classical.not_not.2 h2),if_pos h3]
  rw [er,if_neg (by omega)]
  have h3':=h3;rw [HH (P:=kM f)] at h3';obtain ⟨i,h⟩:=Classical.not_forall.1 h3';obtain ⟨hi,hx⟩:=Classical.not_imp.1 h;obtain ⟨m,m1,m2,m3⟩:=G1 (c:=fun i=> ¬kM f es[i]!) ⟨i,hi,hx⟩
  have l1:aH fD (rP c f es 0)=some (.done (.done (fA,6))):=by
   rw [cE (body:=fD) (fun i=>rP c f es i) m fun j hj=>(step1 j (by omega)).2 (Classical.not_not.1 (m3 j hj))]
   exact aK ((step1 m m1).1 m2)
  rw [k3 _ (k2 _ l1),if_pos h1',if_pos h2']
 have h3':=(HH (P:=kM f)).1 h3;have er:mJ f es=0:=by unfold mJ;rw [if_neg (Classical.not_not.2 h1),if_neg (Classical.not_not.2 h2),if_neg (Classical.not_not.2 h3)]
 rw [er,if_pos rfl];have l1:aH fD (rP c f es 0)=some (.done (.done r)):=by
  rw [cE (body:=fD) (fun i=>rP c f es i) es.length fun j hj=>(step1 j hj).2 (h3' j hj)]
  refine aK ?_;unfold fD rP;simp only [el,cond_false,tw,aB,hr er]
 rw [k3 _ (k2 _ l1),if_pos h1',if_pos h2']
end Go.Proofs.YthljmpcakagceaaGreat
namespace Go.Proofs.YthljmpcakagceaaGreat
open Go.Vm Classical
theorem aJM {f:List Pt} (fok:bQ f) {t:Int×Int} (r:cH t) (r64:qA t): ∃(root:Int) (N:List Nd),tY ⟨f⟩ t=some (⟨root,N⟩,bO N f.length)/\gS f t N root:=by
 have f1:=fok.1;obtain ⟨root,N,h1,h2⟩:=Y5 fok r r64;have ln:=h2.len;have mk:zC (N.length:Int) (0:Int)=some (List.replicate N.length 0):=by
  unfold zC;rw [if_pos ⟨by omega,by omega⟩,Int.toNat_natCast]
 refine ⟨root,N,?_,h2⟩;unfold tY;simp only [h1,aB,aF,beq_self_eq_true,cond_true,mk,List.length_replicate];rw [<- ln];exact WT h2 (by omega)
theorem WV:qS=jJ:=rfl
theorem Y6 (r r':Int) (a b:List Nd) (hl:a.length<=1000000):gI ⟨r,a⟩ ⟨r',b⟩=some (decide (r=r'/\a=b)):=by
 unfold gI;simp only [aF]
 by_cases h0:r=r'
 case neg=>rw [dS h0,cond_true,aL (fun h=>h0 h.1)]
 rw [cA h0,cond_false]
 by_cases h:a.length=b.length
 case neg=>rw [dS (by omega),cond_true,aL (fun q=>h (by rw [q.2]))]
 rw [cA (by omega),cond_false]
 have key:=QX (body:=qW) (fun i=>((i:Int),r,a,r',b)) a.length (fun i=>a[i]! =b[i]!) (r:=false) (e:=true) (fun i hi=>by
  unfold qW;simp only [aF,aN (show (i:Int)<(a.length:Int) by omega),cond_true,aD a i hi,aD b i (by omega),aB,aZ (show i<1000000000 by omega)]
  rw [WL]
  by_cases q:a[i]! =b[i]!
  · rw [aN q];exact ⟨fun w=>absurd q w,fun _=>rfl⟩
  · rw [aL q];exact ⟨fun _=>rfl,fun w=>absurd w q⟩) (by
  unfold qW;simp only [aF,aL (show¬(a.length:Int)<(a.length:Int) by omega),cond_false])
 refine (show _=_ from key).trans ?_
 by_cases q:a=b
 · rw [if_pos (fun i _=>by rw [q]),aN ⟨h0,q⟩]
 · rw [if_neg (fun w=>q (CV h w)),aL (fun w=>q w.2)]
theorem aJN (c:aQ) (es:List (Int×Int)) (h1:es.length<=1000000) (_:c.certs.list.length<=1000000):
 tZ c es=some (decide (es.length=c.certs.list.length/\ ∀i,i<c.certs.list.length->(c.certs.list[i]!).2∈es)):=by
 unfold tZ eD eV;simp only [aF]
 by_cases h0:es.length=c.certs.list.length
 case neg=>rw [gK (by omega),cond_false,aL (fun q=>h0 q.1)]
 rw [gJ (by omega),cond_true]
 have key:=nS (body:=bK) (fun i=>(c.certs.list,es,(c.certs.list.length:Int),(i:Int))) c.certs.list.length (fun i=>(c.certs.list[i]!).2∉es) (fun i=>(i:Int)) (e:= -1) (fun i hi=>by
  unfold bK yD;simp only [aN (show (i:Int)<(c.certs.list.length:Int) by omega),cond_true,aD c.certs.list i hi,aB,mZ es _ h1,aZ (show i<1000000000 by omega)]
  refine ⟨fun q=>?_,fun q=>?_⟩
  · rw [aL q];rfl
  · rw [aN (Classical.not_not.1 q)];rfl) (by
  unfold bK;simp only [aL (show¬(c.certs.list.length:Int)<(c.certs.list.length:Int) by omega),cond_false])
 by_cases hx: ∀i,i<c.certs.list.length->(c.certs.list[i]!).2∈es
 · rw [show aH bK (c.certs.list,es,(c.certs.list.length:Int),0)=_ from key.2 (fun i hi=>Classical.not_not.2 (hx i hi)),aB,aB,aL (by omega),aN ⟨h0,hx⟩]
   rfl
 · obtain ⟨i,hi⟩:=Classical.not_forall.1 hx
   obtain ⟨hi,hn⟩:=Classical.not_imp.1 hi;obtain ⟨m,m1,m2,m3⟩:=G1 (c:=fun i=>(c.certs.list[i]!).2∉es) ⟨i,hi,hn⟩
   rw [show aH bK (c.certs.list,es,(c.certs.list.length:Int),0)=_ from key.1 m m1 m2 m3,aB,aB,aN (by omega),aL (fun w=>hx w.2)]
   rfl
structure gE (k:bN):Prop where
 clk:bH k.clock
 tree:gS k.clock.field.points k.clock.now k.tree.nodes k.tree.root
 cert:(k.clock.certs.list.map fun x=>x.2).Perm (bO k.tree.nodes k.clock.field.points.length)
theorem JZ {c:aQ} (ok:bH c) {N:List Nd} {r:Int} (_:gS c.field.points c.now N r):
 ((bO N c.field.points.length).length=c.certs.list.length/\ ∀i,i<c.certs.list.length->(c.certs.list[i]!).2∈bO N c.field.points.length)↔(c.certs.list.map fun x=>x.2).Perm (bO N c.field.points.length):=by
 have cl:(c.certs.list.map fun x=>x.2).length=c.certs.list.length:=List.length_map ..
 constructor
 · rintro ⟨h1,h2⟩
   refine A9 (JP ok.crt) (fun x hx=>?_) (by omega)
   obtain ⟨i,hi,rfl⟩:=wP.2 hx;exact h2 i hi
 · intro h
   exact ⟨by rw [<- h.length_eq,cl],fun i hi=>h.mem_iff.1 (wP.1 ⟨i,hi,rfl⟩)⟩
theorem Q2 {c:aQ} (ok:bH c) {N:List Nd} {r:Int} (tr:gS c.field.points c.now N r):
 (c.certs.list.length=(bO N c.field.points.length).length/\ ∀i,i<(bO N c.field.points.length).length->vE c.certs.list (bO N c.field.points.length)[i]!/\iO (nB c.field.points ((bO N c.field.points.length)[i]!).2) (nB c.field.points ((bO N c.field.points.length)[i]!).1) c.now)↔(c.certs.list.map fun x=>x.2).Perm (bO N c.field.points.length):=by
 have cl:(c.certs.list.map fun x=>x.2).length=c.certs.list.length:=List.length_map ..
 obtain ⟨_,nd,ld⟩:=tr.edges ok.fld;constructor
 · rintro ⟨h1,h2⟩
   refine (A9 nd (fun x hx=>?_) (by omega)).symm
   obtain ⟨i,hi,rfl⟩:=bD.1 hx;exact wP.1 (h2 i hi).1
 · intro h
   exact ⟨by rw [<- h.length_eq,cl],fun i hi=>⟨wP.2 (h.mem_iff.2 (bF hi)),ld _ (bF hi)⟩⟩
theorem BS {k:bN} (fit:wO k.clock):qU k=some (if gE k then 0 else 8):=by
 unfold qU;rw [nX fit,aB]
 by_cases ok:bH k.clock
 case neg=>rw [if_neg ok,if_neg (fun h=>ok h.clk)];rfl
 rw [if_pos ok,cA rfl,cond_false];have bd:=ok.bd;obtain ⟨r,N,h1,h2⟩:=aJM ok.fld ok.nowv ok.now64;have h1:tY k.clock.field k.clock.now=some (⟨r,N⟩,bO N k.clock.field.points.length):=h1;have same: ∀h:gE k,N=k.tree.nodes/\r=k.tree.root:=fun h=>h2.same ok.fld.2.2 h.tree
 rw [h1,aB]
 by_cases hr:r=k.tree.root
 case neg=>rw [dS hr,cond_true,if_neg (fun h=>hr (same h).2)]
 have ln:=h2.len;rw [cA hr,cond_false,WV,A8 N k.tree.nodes (by omega),aB]
 by_cases hn:N=k.tree.nodes
 case neg=>rw [aL hn,if_neg (fun h=>hn (same h).1)];rfl
 have el:=mI N k.clock.field.points.length;rw [aN hn,Bool.not_true,cond_false];show (tZ k.clock (bO N k.clock.field.points.length)).bind _=_;rw [aJN k.clock _ (by omega) (by omega),aB]
 have iff:=JZ ok h2
 by_cases hj:(bO N k.clock.field.points.length).length=k.clock.certs.list.length/\ ∀i,i<k.clock.certs.list.length->(k.clock.certs.list[i]!).2∈bO N k.clock.field.points.length
 · rw [aN hj,if_pos (show gE k from ⟨ok,by rw [<- hn,<- hr];exact h2,by rw [<- hn];exact iff.1 hj⟩)];rfl
 · rw [aL hj,if_neg (fun h:gE k=>hj (iff.2 (by rw [hn];exact h.cert)))];rfl
theorem M8 {k:bN} (fit:wO k.clock):xM k=some (if gE k then 0 else 8):=by
 unfold xM;rw [M3 fit,aB]
 by_cases ok:bH k.clock
 case neg=>rw [if_neg ok,if_neg (fun h=>ok h.clk)];rfl
 rw [if_pos ok,cA rfl,cond_false];have bd:=ok.bd;obtain ⟨r,N,h1,h2⟩:=aAz ok.fld (t:=k.clock.now) ok.now64;have h1:rT k.clock.field k.clock.now=some ⟨r,N⟩:=h1;have same: ∀h:gE k,N=k.tree.nodes/\r=k.tree.root:=fun h=>h2.same ok.fld.2.2 h.tree
 have ln:=h2.len;have keta:k.tree=⟨k.tree.root,k.tree.nodes⟩:=rfl;rw [h1,aB,keta,Y6 _ _ _ _ (by omega),aB]
 by_cases hn:r=k.tree.root/\N=k.tree.nodes
 case neg=>rw [aL hn,if_neg (fun h:gE k=>hn ⟨(same h).2,(same h).1⟩)];rfl
 have el:=mI N k.clock.field.points.length;obtain ⟨eok,_,_⟩:=h2.edges ok.fld;rw [aN hn,Bool.not_true,cond_false,aJL h2 (by omega),aB,ln,aJC ok _ eok.kn,aB]
 have iff:=Q2 ok h2
 by_cases hj:k.clock.certs.list.length=(bO N k.clock.field.points.length).length/\ ∀i,i<(bO N k.clock.field.points.length).length->vE k.clock.certs.list (bO N k.clock.field.points.length)[i]!/\iO (nB k.clock.field.points ((bO N k.clock.field.points.length)[i]!).2) (nB k.clock.field.points ((bO N k.clock.field.points.length)[i]!).1) k.clock.now
 · rw [aN hj,if_pos (show gE k from ⟨ok,by rw [<- hn.1,<- hn.2];exact h2,by rw [<- hn.2];exact iff.1 hj⟩)];rfl
 · rw [aL hj,if_neg (fun h:gE k=>hj (iff.2 (by rw [hn.2];exact h.cert)))];rfl
structure aCI (k:bN):Prop where
 c:aCD k.clock
 n:k.tree.nodes.length<=1000
theorem Q3 (k:bN):uD k=some true\/(uD k=some false/\aCI k):=by
 unfold uD CS
 rcases UE k.clock with e|⟨e,sh⟩
 · rw [e];exact .inl rfl
 rw [e,aB,cond_false,aB,aF]
 by_cases h:70<k.tree.nodes.length
 · rw [aN (by omega)];exact .inl rfl
 · rw [aL (by omega)];exact .inr ⟨rfl,sh,by omega⟩
theorem WW {c:aQ} (ok:bH c) {f:List Pt} (fok:bQ f) {N:List Nd} {r:Int} (tr:gS f c.now N r):
 ∃R:aQ×Int,lX c ⟨f⟩ (bO N f.length)=some R/\mV c ⟨f⟩ (bO N f.length)=some R/\(R.2=0/\Y2 c f (bO N f.length) R.1\/R=(fA,18)):=by
 have f1:=fok.1;obtain ⟨eok,nd,_⟩:=tr.edges fok;have el:=mI N f.length;obtain ⟨R,r1,r2,r3⟩:=aJz ok fok eok;have ee:mJ f (bO N f.length)=0:=by
  unfold mJ;rw [if_neg (Classical.not_not.2 eok.cv),if_neg (Classical.not_not.2 nd),if_neg (fun h=>h eok.kn)]
 have rn:=C7 ok fok (es:=bO N f.length) (by omega) (fun _=>r1)
 rw [if_pos ee] at rn;exact ⟨R,rn,r2,r3⟩
end Go.Proofs.YthljmpcakagceaaGreat
namespace Go.Proofs.YthljmpcakagceaaGreat
open Go.Vm Classical
end Go.Proofs.YthljmpcakagceaaGreat
namespace Go.Proofs.YthljmpcakagceaaGreat
open Go.Vm Classical
end Go.Proofs.YthljmpcakagceaaGreat
namespace Go.Proofs.YthljmpcakagceaaGreat
open Go.Vm Classical
theorem M9 {α:Type} [BEq α] [LawfulBEq α]: ∀{a b:List α},a.Nodup->(∀x∈a,x∈b)->a.length<=b.length
 | [],_,_,_=>Nat.zero_le _
 |x::a,b,hd,h=>by
  rw [List.nodup_cons] at hd;have hx:=h x List.mem_cons_self
  have:=M9 (a:=a) (b:=b.erase x) hd.2 (fun y hy=>by
   rw [List.mem_erase_of_ne (fun e=>hd.1 (by rw [<- e];exact hy))]
   exact h y (List.mem_cons_of_mem _ hy))
  rw [List.length_erase_of_mem hx] at this
  have:=List.length_pos_of_mem hx
  rw [List.length_cons];omega
theorem UM {α:Type} [BEq α] [LawfulBEq α] {a b:List α} (ha:a.Nodup) (hb:b.Nodup) (h1: ∀x∈a,x∈b) (h2: ∀x∈b,x∈a):a.Perm b:=A9 ha h1 (M9 hb h2)
theorem WX {c:aQ} (ok:bH c) {es:List (Int×Int)} (eok:HG c.field.points es) (pm:(c.certs.list.map fun x=>x.2).Perm es):nR c c.field es=some (c,0):=by
 have bd:=ok.bd;have el:=eok.len;have f1:=ok.fld.1;have k1:=cE (body:=dC) (fun i=>kP c c.field.points es i c) c.certs.list.length (fun i hi=>by
  have hin:(c.certs.list[i]!).2∈es:=pm.mem_iff.1 (wP.1 ⟨i,hi,rfl⟩);unfold dC kP;simp only [aN (show (i:Int)<(c.certs.list.length:Int) by omega),cond_true,aD c.certs.list i hi,aB,mZ _ _ eok.len,aN hin,Bool.not_true,cond_false,aZ (show i<1000000000 by omega)])
 refine (show nR c c.field es=_ from k1).trans (aK ?_);unfold dC kP;simp only [aL (show¬(c.certs.list.length:Int)<(c.certs.list.length:Int) by omega),cond_false,A8 c.field.points c.field.points (by omega),aB,Bool.not_true,decide_true]
 have k2:=cE (body:=dN) (fun i=>eP es i c) es.length (fun i hi=>by
  have hin:vE c.certs.list es[i]!:=wP.2 (pm.mem_iff.2 (bF hi));unfold dN eP;simp only [aN (show (i:Int)<(es.length:Int) by omega),cond_true,aD es i hi,aB,D1,MZ c.certs.list es[i]! (by omega),aN hin,aZ (show i<1000000000 by omega)])
 refine (show _=_ from k2).trans (aK ?_);unfold dN eP;simp only [aL (show¬(es.length:Int)<(es.length:Int) by omega),cond_false]
structure yO (R:bN) (F:List Pt) (t:Int×Int):Prop where
 ok:gE R
 fld:R.clock.field.points=F
 now:R.clock.now=t
theorem yO.short {R:bN} {F:List Pt} {t:Int×Int} (h:yO R F t):aCI R:=by
 have:=h.ok.clk.fld.1
 refine ⟨h.ok.clk.short,?_⟩
 have:=h.ok.tree.len
 omega
theorem yO.nums {R:bN} {F:List Pt} {t:Int×Int} (h:yO R F t):wO R.clock:=h.ok.clk.fit
theorem yO.same {R S:bN} {F:List Pt} {t:Int×Int} (h:yO R F t) (k:yO S F t):R.tree=S.tree:=by
 have a:=h.ok.tree;rw [h.fld,h.now] at a;have b:=k.ok.tree;rw [k.fld,k.now] at b;obtain ⟨e1,e2⟩:=a.same (by rw [<- h.fld];exact h.ok.clk.fld.2.2) b
 obtain ⟨_,⟨r,N⟩⟩:=R;obtain ⟨_,⟨r',N'⟩⟩:=S;simp only at e1 e2;subst e1 e2;rfl
abbrev noH:bN:=⟨fA,⟨0,[]⟩⟩
theorem UN {k:bN} (ok:gE k) {F:List Pt} (fok':bQ F): ∃R:bN×Int,
 ((sB ⟨F⟩ k.clock.now).bind fun a2=>(pV a2.1).bind fun l3=>(lX k.clock ⟨F⟩ l3).bind fun a4=>
  bif a4.2 !=0 then some (bN.mk (aQ.mk (0,0) (Field.mk []) (aV.mk 0 []) (aI.mk (aR.mk [] [] []) [] []) []) (oM.mk 0 []),a4.2) else some (bN.mk a4.1 a2.1,0))=some R/\
 (R=(noH,18)\/R.2=0/\yO R.1 F k.clock.now)/\(F=k.clock.field.points->R=(k,0)):=by
 have f1:=fok'.1;obtain ⟨r,N,h1,h2⟩:=Y5 fok' ok.clk.nowv ok.clk.now64;have ln:=h2.len;obtain ⟨S,r1,_,r3⟩:=WW ok.clk fok' h2;rw [<- ln] at r1;have ee:=WU h2 (by omega)
 obtain ⟨eok,nd,_⟩:=h2.edges fok';refine ⟨if S.2=0 then (⟨S.1,⟨r,N⟩⟩,0) else (noH,S.2),?_,?_,fun hF=>?_⟩
 · rw [h1,aB,ee,aB,r1,aB]
   by_cases c:S.2=0
   · rw [if_pos c,cA c];rfl
   · rw [if_neg c,dS c];rfl
 · rcases r3 with ⟨q0,qq⟩|he
   · rw [if_pos q0]
     refine .inr ⟨rfl,⟨qq.ok,?_,?_⟩,qq.fld,qq.now⟩
     · show gS S.1.field.points S.1.now N r
       rw [qq.fld,qq.now];exact h2
     · show (S.1.certs.list.map fun x=>x.2).Perm (bO N S.1.field.points.length)
       rw [qq.fld];exact UM (JP qq.ok.crt) nd (fun x hx=>by obtain ⟨y,hy,rfl⟩:=List.mem_map.1 hx;exact qq.sub y hy) (fun x hx=>wP.1 (qq.has x hx))
   · rw [he,if_neg (by decide)];exact .inl rfl
 · subst hF
   obtain ⟨e1,e2⟩:=h2.same fok'.2.2 ok.tree;obtain ⟨c,⟨r',N'⟩⟩:=k;simp only at e1 e2;subst e1 e2;have rs:=WX ok.clk eok ok.cert;have rn:=C7 ok.clk fok' (es:=bO N c.field.points.length) (by have:=mI N c.field.points.length;have h2:c.field.points.length<=64:=fok'.1;omega) (fun _=>rs)
   rw [if_pos (show mJ c.field.points (bO N c.field.points.length)=0 by
    unfold mJ;rw [if_neg (Classical.not_not.2 eok.cv),if_neg (Classical.not_not.2 nd),if_neg (fun h=>h eok.kn)]),<- ln] at rn
   have:S=(c,0):=Option.some.inj (r1.symm.trans rn)
   rw [this,if_pos rfl]
theorem UO {k:bN} (ok:gE k) (p:Pt):(∃e:Int,e≠0/\jT k.clock.field p=some (⟨[]⟩,e)/\gG k p=some (noH,e))\/
 ∃m,UI k.clock.field.points p m/\ ¬sI k.clock.field.points p.1/\gX p/\k.clock.field.points.length<64/\jT k.clock.field p=some (⟨C5 k.clock.field.points m p⟩,0)/\
  ∃R:bN×Int,gG k p=some R/\(R=(noH,18)\/R.2=0/\yO R.1 (C5 k.clock.field.points m p) k.clock.now):=by
 have c1:=BS ok.clk.fit;rw [if_pos ok] at c1;have fok:=ok.clk.fld;rcases M7 fok p with ⟨e,e0,t1,_⟩|⟨m,hm,hp,po,hlt,t1,_⟩
 · have t1:jT k.clock.field p=some (⟨[]⟩,e):=t1
   refine .inl ⟨e,e0,t1,?_⟩;unfold gG gA xH;simp only [c1,aB,t1,show ((0:Int) !=0)=false from rfl,cond_false,dS e0,cond_true]
 · have t1:jT k.clock.field p=some (⟨C5 k.clock.field.points m p⟩,0):=t1
   obtain ⟨R,s1,s2,_⟩:=UN ok (aJD fok po hm hlt);refine .inr ⟨m,hm,hp,po,hlt,t1,R,?_,s2⟩;unfold gG gA xH;simp only [c1,aB,t1,show ((0:Int) !=0)=false from rfl,cond_false];rw [s1];rfl
theorem OZ {k:bN} (ok:gE k) (id:Int):(¬sI k.clock.field.points id/\kK k.clock.field id=some (⟨[]⟩,6)/\gQ k id=some (noH,6))\/
 ∃q,q<k.clock.field.points.length/\(k.clock.field.points[q]!).1=id/\kK k.clock.field id=some (⟨k.clock.field.points.eraseIdx q⟩,0)/\
  ∃R:bN×Int,gQ k id=some R/\(R=(noH,18)\/R.2=0/\yO R.1 (k.clock.field.points.eraseIdx q) k.clock.now):=by
 have c1:=BS ok.clk.fit;rw [if_pos ok] at c1;have fok:=ok.clk.fld
 by_cases hid:sI k.clock.field.points id
 case neg=>
  obtain ⟨t1,_⟩:=Q0 fok hid;have t1:kK k.clock.field id=some (⟨[]⟩,6):=t1;refine .inl ⟨hid,t1,?_⟩;unfold gQ fP vC;rw [c1,aB,cA rfl,cond_false,t1];rfl
 obtain ⟨q,hq,rfl⟩:=hid;obtain ⟨t1,_⟩:=WM fok hq;have t1:kK k.clock.field (k.clock.field.points[q]!).1=some (⟨k.clock.field.points.eraseIdx q⟩,0):=t1;obtain ⟨R,s1,s2,_⟩:=UN ok (aCF fok q);refine .inr ⟨q,hq,rfl,t1,R,?_,s2⟩;unfold gQ fP vC;simp only [c1,aB,t1,show ((0:Int) !=0)=false from rfl,cond_false];rw [s1];rfl
theorem WY: ∀{a b:List Pt},gR a->gR b->(∀p,p∈a↔p∈b)->a=b:=by
 intro a b ha hb h;have lt: ∀{l:List Pt},gR l-> ∀i j,i<j->j<l.length->(l[i]!).1<(l[j]!).1:=fun hl i j h1 h2=>gH hl h1 h2
 have ix: ∀{l:List Pt},gR l-> ∀i j,i<l.length->j<l.length->(l[i]!).1=(l[j]!).1->i=j:=fun hl i j h1 h2 e=>by
  rcases Nat.lt_trichotomy i j with c|c|c
  · have:=lt hl i j c h2;omega
  · exact c
  · have:=lt hl j i c h1;omega
 have sub: ∀{a b:List Pt},gR a->gR b->(∀p,p∈a->p∈b)-> ∃g:Nat->Nat,∀i,i<a.length->g i<b.length/\b[g i]! =a[i]!/\i<=g i:=by
  intro a b ha hb h;refine ⟨fun i=>if hi:i<a.length then (bD.1 (h _ (bF hi))).choose else 0,fun i=>?_⟩
  induction i with
  |zero=>intro hi;simp only [dif_pos hi];have:=(bD.1 (h _ (bF hi))).choose_spec;exact ⟨this.1,this.2,Nat.zero_le _⟩
  |succ i ih=>
   intro hi;have p:=ih (by omega)
   simp only [dif_pos hi];have q:=(bD.1 (h _ (bF hi))).choose_spec;refine ⟨q.1,q.2,?_⟩;simp only [dif_pos (show i<a.length by omega)] at p
   have l1:=lt ha i (i+1) (by omega) hi
   rw [<- p.2.1,<- q.2] at l1;rcases Nat.lt_or_ge (bD.1 (h _ (bF (show i<a.length by omega)))).choose (bD.1 (h _ (bF hi))).choose with c|c
   · omega
   · rcases Nat.lt_or_eq_of_le c with c|c
     · have:=lt hb _ _ c p.1;omega
     · rw [c] at l1;omega
 obtain ⟨g,hg⟩:=sub ha hb fun p=>(h p).1
 obtain ⟨g',hg'⟩:=sub hb ha fun p=>(h p).2
 have e:a.length=b.length:=by
  rcases Nat.lt_trichotomy a.length b.length with c|c|c
  · have:=hg' (b.length-1) (by omega);omega
  · exact c
  · have:=hg (a.length-1) (by omega);omega
 refine List.ext_getElem? fun i=>?_
 by_cases hi:i<a.length
 · have q:=hg i hi
   have q':=hg' i (by omega)
   have:g i=i:=by
    rcases Nat.lt_or_ge i (g i) with c|c
    · have l1:=lt hb i (g i) c q.1
      have l2:(a[i]!).1<=(a[g' i]!).1:=by
       rcases Nat.lt_or_eq_of_le q'.2.2 with d|d
       · exact Int.le_of_lt (lt ha i (g' i) d q'.1)
       · rw [<- d];exact Int.le_refl _
      rw [q.2.1,<- q'.2.1] at l1;omega
    · omega
   rw [this] at q;rw [List.getElem?_eq_getElem hi,List.getElem?_eq_getElem (show i<b.length by omega)]
   have w:=q.2.1;rw [getElem!_pos b i (by omega),getElem!_pos a i hi] at w
   rw [w]
 · rw [List.getElem?_eq_none (by omega),List.getElem?_eq_none (by omega)]
theorem aJO {f:List Pt} {m:Nat} {p q:Pt}:q∈C5 f m p↔q=p\/q∈f:=by
 unfold C5;rw [List.mem_append,List.mem_cons];constructor
 · rintro (h|h|h)
   · exact .inr (List.mem_of_mem_take h)
   · exact .inl h
   · exact .inr (List.mem_of_mem_drop h)
 · rintro (h|h)
   · exact .inr (.inl h)
   · rw [<- List.take_append_drop m f] at h
     rcases List.mem_append.1 h with h|h
     · exact .inl h
     · exact .inr (.inr h)
theorem aAB {f:List Pt} (hs:gR f) {q:Nat} (hq:q<f.length) {p:Pt}:p∈f.eraseIdx q↔p∈f/\p.1≠(f[q]!).1:=by
 rw [List.mem_eraseIdx_iff_getElem];constructor
 · rintro ⟨i,hi,hne,rfl⟩
   refine ⟨List.getElem_mem _,fun e=>?_⟩
   rw [<- getElem!_pos f i hi] at e;rcases Nat.lt_trichotomy i q with c|c|c
   · have:=gH hs c hq;omega
   · exact hne c
   · have:=gH hs c hi;omega
 · rintro ⟨hp,hne⟩
   obtain ⟨i,hi,rfl⟩:=bD.1 hp;refine ⟨i,hi,fun e=>hne (by rw [e]),?_⟩
   rw [getElem!_pos f i hi]
end Go.Proofs.YthljmpcakagceaaGreat
namespace Go.Proofs.YthljmpcakagceaaGreat
open Go.Vm Classical
theorem aCJ {k:bN} (n:aCE k.clock):zJ k=some false\/(zJ k=some true/\gE k):=by
 unfold zJ;rcases Q3 k with e|⟨e,sh⟩
 · rw [e];exact .inl rfl
 rw [e,aB];unfold FN;rw [aB,Bool.not_false,cond_true];cases decide (10<Int.ofNat k.clock.field.points.length) with
 |true=>exact .inl rfl
 |false=>
  rw [Bool.not_false,cond_true,M8 ⟨n.now,⟨sh.c.s3,sh.c.h,sh.c.w,n.at64⟩,sh.c.d⟩,aB]
  by_cases ok:gE k
  · rw [if_pos ok];exact .inr ⟨rfl,ok⟩
  · rw [if_neg ok];exact .inl rfl
theorem yO.fieldsame {R S:bN} {F:List Pt} {t u:Int×Int} (h:yO R F t) (k:yO S F u):jD R.clock.field S.clock.field=some true:=by
 have h1:=h.ok.clk.fld.1;rw [show jD R.clock.field S.clock.field=_ from JO R.clock.field.points S.clock.field.points (by omega),aN (h.fld.trans k.fld.symm)]
theorem yO.treesame {R S:bN} {F:List Pt} {t:Int×Int} (h:yO R F t) (k:yO S F t):gI R.tree S.tree=some true:=by
 have h1:=h.short.n;rw [<- h.same k,show gI R.tree R.tree=_ from Y6 R.tree.root R.tree.root R.tree.nodes R.tree.nodes (by omega),aN ⟨rfl,rfl⟩]
theorem HI {k:bN} (ok:gE k) {p:Pt} {R:bN×Int} (h:gG k p=some R) (h0:R.2=0): ∃F,yO R.1 F k.clock.now/\ ∀x,x∈F↔x=p\/x∈k.clock.field.points:=by
 rcases UO ok p with ⟨e,e0,_,t⟩|⟨m,hm,hp,po,hl,_,R',r1,r2⟩
 · rw [h] at t;injection t with t;subst t;exact absurd h0 e0
 · rw [h] at r1;injection r1 with r1;subst r1
   rcases r2 with rfl|⟨_,ht⟩
   · cases h0
   · exact ⟨_,ht,fun x=>aJO⟩
theorem UP {k:bN} (ok:gE k) {id:Int} {R:bN×Int} (h:gQ k id=some R) (h0:R.2=0): ∃F,yO R.1 F k.clock.now/\ ∀x,x∈F↔x∈k.clock.field.points/\x.1≠id:=by
 rcases OZ ok id with ⟨_,_,t⟩|⟨q,hq,he,_,R',r1,r2⟩
 · rw [h] at t;injection t with t;subst t;cases h0
 · rw [h] at r1;injection r1 with r1;subst r1
   rcases r2 with rfl|⟨_,ht⟩
   · cases h0
   · exact ⟨_,ht,fun x=>by rw [aAB ok.clk.fld.2.2 hq,he]⟩
theorem yO.ext {R S:bN} {F G:List Pt} {t:Int×Int} (h:yO R F t) (k:yO S G t) (hm: ∀x,x∈F↔x∈G):F=G:=by
 have a:=h.ok.clk.fld.2.2;have b:=k.ok.clk.fld.2.2;rw [h.fld] at a;rw [k.fld] at b;exact WY a b hm
theorem C8 {k:bN} (ok:gE k) (p:Pt): ∃R,gG k p=some R:=by
 rcases UO ok p with ⟨e,e0,_,t⟩|⟨m,hm,hp,po,hl,_,R,r1,r2⟩
 · exact ⟨_,t⟩
 · exact ⟨_,r1⟩
theorem O0 {k:bN} (ok:gE k) (id:Int): ∃R,gQ k id=some R:=by
 rcases OZ ok id with ⟨_,_,t⟩|⟨q,hq,he,_,R,r1,r2⟩
 · exact ⟨_,t⟩
 · exact ⟨_,r1⟩
theorem D4 (k:bN) (p q:Pt) (id:Int) (n:aCE k.clock):wI k p q id=some true:=by
 unfold wI;rw [aB];rcases aCJ n with e|⟨e,ok⟩
 · rw [e];rfl
 rw [e,aB,Bool.not_true,cond_false]
 by_cases h1:p.1=q.1
 · rw [gJ h1];rfl
 rw [show (p.1==q.1)=false by simpa using h1,cond_false]
 by_cases h2:p.1=id
 · rw [gJ h2];rfl
 rw [show (p.1==id)=false by simpa using h2,cond_false,cond_false]
 obtain ⟨A,hA⟩:=C8 ok p;obtain ⟨B,hB⟩:=C8 ok q;obtain ⟨C,hC⟩:=O0 ok id;rw [hA,aB,hB,aB,hC,aB]
 by_cases a0:A.2=0
 case neg=>rw [dS a0];rfl
 by_cases b0:B.2=0
 case neg=>rw [cA a0,cond_false,dS b0];rfl
 rw [cA a0,cond_false,cA b0,cond_false];obtain ⟨FA,ha,ma⟩:=HI ok hA a0;obtain ⟨FB,hb,mb⟩:=HI ok hB b0;obtain ⟨X,hX⟩:=C8 ha.ok q;obtain ⟨Y,hY⟩:=C8 hb.ok p;rw [hX,aB,hY,aB];have fin:(bif C.2 !=0 then some true else (gQ A.1 id).bind fun a13=>(gG C.1 p).bind fun a14=>bif true then bif a13.2 !=0 then some true else bif a14.2 !=0 then some true else
  (jD a13.1.clock.field a14.1.clock.field).bind fun b15=>bif b15 then (gI a13.1.tree a14.1.tree).bind fun b16=>some b16 else some false else some false)=some true:=by
  by_cases c0:C.2=0
  case neg=>rw [dS c0];rfl
  rw [cA c0,cond_false];obtain ⟨FC,hc,mc⟩:=UP ok hC c0;obtain ⟨U,hU⟩:=O0 ha.ok id;obtain ⟨V,hV⟩:=C8 hc.ok p;rw [hU,aB,hV,aB,cond_true]
  by_cases u0:U.2=0
  case neg=>rw [dS u0];rfl
  rw [cA u0,cond_false]
  by_cases v0:V.2=0
  case neg=>rw [dS v0];rfl
  rw [cA v0,cond_false];obtain ⟨FU,hu,mu⟩:=UP ha.ok hU u0;obtain ⟨FV,hv,mv⟩:=HI hc.ok hV v0;rw [ha.fld] at mu;rw [hc.fld] at mv;rw [ha.now] at hu;rw [hc.now] at hv;have hF:FU=FV:=hu.ext hv fun x=>by
   rw [mu,ma,mv,mc];constructor
   · rintro ⟨rfl|h,h'⟩
     · exact .inl rfl
     · exact .inr ⟨h,h'⟩
   · rintro (rfl|⟨h,h'⟩)
     · exact ⟨.inl rfl,h2⟩
     · exact ⟨.inr h,h'⟩
  subst hF;rw [hu.fieldsame hv,aB,cond_true,hu.treesame hv,aB]
 by_cases x0:X.2=0
 case neg=>rw [show (X.2==0)=false by simpa using x0,cond_false];exact fin
 by_cases y0:Y.2=0
 case neg=>rw [gJ x0,cond_true,show (Y.2==0)=false by simpa using y0,cond_false];exact fin
 rw [gJ x0,cond_true,gJ y0,cond_true];obtain ⟨FX,hx,mx⟩:=HI ha.ok hX x0;obtain ⟨FY,hy,my⟩:=HI hb.ok hY y0;rw [ha.fld] at mx;rw [hb.fld] at my;rw [ha.now] at hx;rw [hb.now] at hy;have hF:FX=FY:=hx.ext hy fun x=>by
  rw [mx,ma,my,mb];constructor
  · rintro (h|h|h)
    · exact .inr (.inl h)
    · exact .inl h
    · exact .inr (.inr h)
  · rintro (h|h|h)
    · exact .inr (.inl h)
    · exact .inl h
    · exact .inr (.inr h)
 subst hF;rw [hx.fieldsame hy,aB,Bool.not_true,cond_false,hx.treesame hy,aB,Bool.not_true,cond_false];exact fin
end Go.Proofs.YthljmpcakagceaaGreat
namespace Go.Proofs.YthljmpcakagceaaGreat
open Go.Vm Classical
theorem aCE.of {c:aQ} (h1:RT.wf [.i .i64,.i .i64] c.now) (h2: ∀a∈c.agenda.heap,RT.wf [.i .i64,.i .i64,.i .i64,.i .i64,.i .i64] a):aCE c where
 now:=⟨PX h1.1,PX h1.2⟩
 at64 w hw:=by
  have:=h2 (c.agenda.heap[w]!) (by rw [getElem!_pos c.agenda.heap w hw];exact List.getElem_mem hw)
  exact ⟨PX this.1,PX this.2.1⟩
end Go.Proofs.YthljmpcakagceaaGreat
