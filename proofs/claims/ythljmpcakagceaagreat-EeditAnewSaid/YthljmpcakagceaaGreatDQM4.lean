/- Plain laws (4). -/
import Derived.Test.YthljmpcakagceaaGreatDQM3
import Derived.Test.YthljmpcakagceaaGreatDQS2
import Derived.Test.YthljmpcakagceaaGreatDVm3
namespace Go.Proofs.YthljmpcakagceaaGreat
open Go.Vm Classical
theorem TD (p q:Pt) (t:Int×Int):OF p q t=(p.2.1*t.2+p.2.2*t.1) - (q.2.1*t.2+q.2.2*t.1):=by
 rw [JC,Int.sub_mul,Int.sub_mul];omega
theorem EP {p q r:Pt} {t:Int×Int} (h1:eO p q t) (h2:eO q r t):eO p r t:=by
 unfold eO at*;rw [TD] at*;generalize p.2.1*t.2+p.2.2*t.1=a at*;generalize q.2.1*t.2+q.2.2*t.1=b at*;generalize r.2.1*t.2+r.2.2*t.1=c at*;omega
theorem zL {p q:Pt} (t:Int×Int) (h:p.1≠q.1) (hn: ¬eO p q t):eO q p t:=by
 unfold eO at*;rw [TD] at*;generalize p.2.1*t.2+p.2.2*t.1=a at*;generalize q.2.1*t.2+q.2.2*t.1=b at*;omega
theorem aEo {f:List Pt} (fok:bN f) (k:Nat):bN (f.eraseIdx k):=by
 refine ⟨Nat.le_trans (List.length_eraseIdx_le f k) fok.1,fun p hp=>fok.2.1 p (List.mem_of_mem_eraseIdx hp),?_⟩
 have h:=fok.2.2;intro i hi;have hl:=List.length_eraseIdx_le f k
 by_cases hk:k<f.length
 · have:=MC hk
   rw [CO,CO];split<;>split<;>exact hO h (by omega) (by omega)
 · rw [List.eraseIdx_of_length_le (by omega)] at hi ⊢
   exact h i hi
theorem LK {f:List Pt} (fok:bN f) {k:Nat} (hk:k<f.length):lG ⟨f⟩ (f[k]!).1=some ((k:Int),0):=by
 have h1:=fok.1;have hc:dD ⟨f⟩=some 0:=by rw [fZ];exact congrArg some (eQ.2 fok)
 have bs:=zI f (f[k]!).1 (by omega) (fun i j=>hO fok.2.2)
 unfold lG lN;rw [I5];simp only [hc,aB,show ((0:Int) !=0)=false from rfl,cond_false,bs.1 k hk rfl,Bool.not_true]
theorem GJ {f:List Pt} (fok:bN f) {id:Int} (h: ¬pQ f id):lG ⟨f⟩ id=some (0,6):=by
 have h1:=fok.1;have hc:dD ⟨f⟩=some 0:=by rw [fZ];exact congrArg some (eQ.2 fok)
 have bs:=zI f id (by omega) (fun i j=>hO fok.2.2)
 obtain ⟨m,_,_,_,e⟩:=bs.2 (fun k hk he=>h ⟨k,hk,he⟩)
 unfold lG lN;rw [I5];simp only [hc,aB,show ((0:Int) !=0)=false from rfl,cond_false,e,Bool.not_false,cond_true]
theorem TE:lP=dE:=rfl
theorem Y1 {f:List Pt} (fok:bN f) {k:Nat} (hk:k<f.length):jA ⟨f⟩ (f[k]!).1=some (⟨f.eraseIdx k⟩,0)/\CF ⟨f⟩ (f[k]!).1=some (⟨f.eraseIdx k⟩,0):=by
 have f1:=fok.1;constructor
 · obtain ⟨L,d1,d2⟩:=EK f k hk
   unfold jA;rw [LK fok hk,aB,bR rfl,cond_false,bI (show f.length<=1048576 by omega),aB,aY (show k<1000000000 by omega),TE,d1,aB]
   show some (Field.mk (L.take (f.length-1)),(0:Int))=_;rw [d2]
 · have hc:gI ⟨f⟩=some 0:=by rw [pA];exact congrArg some (eQ.2 fok)
   unfold CF;rw [hc,aB,bR rfl,cond_false,FM fok.2.2 (by omega) hk rfl,aB,aL (by omega),cond_false]
   unfold GB;generalize hn:(f[k]!).1=n;have key:=cN (body:=jQ) (fun i=>(n,(i:Int),f,(f.take i).filter (fun x=>x.1 !=n))) f.length (fun i hi=>by
    have nx:(f.take (i+1)).filter (fun x=>x.1 !=n)=(f.take i).filter (fun x=>x.1 !=n)++(if (f[i]!).1 !=n then [f[i]!] else []):=by
     rw [gA hi,List.filter_append,List.filter_cons,List.filter_nil]
    have fl:((f.take i).filter (fun x=>x.1 !=n)).length<=200:=Nat.le_trans (List.length_filter_le _ _) (by rw [List.length_take];omega)
    unfold jQ;simp only [aF,aN (show (i:Int)<(f.length:Int) by omega),cond_true,aE f i hi,aB,aY (show i<1000000000 by omega),nx]
    by_cases h:(f[i]!).1=n
    · rw [bR h];simp
    · rw [eH h]
      simp only [cond_true,if_true,cI (show ((f.take i).filter (fun x=>x.1 !=n)).length+[f[i]!].length<=1048576 by simp only [List.length_cons,List.length_nil];omega),aB])
   have fin:aH jQ (n,(f.length:Int),f,(f.take f.length).filter (fun x=>x.1 !=n))=some ⟨f.eraseIdx k⟩:=aI (by
    unfold jQ;simp only [aF,aL (show¬(f.length:Int)<(f.length:Int) by omega),cond_false,List.take_length]
    rw [I7 hk (fun i j=>hO fok.2.2) hn])
   rw [show aH jQ (n,0,f,[])=_ from key,fin,aB]
theorem TF {f:List Pt} (fok:bN f) {id:Int} (h: ¬pQ f id):jA ⟨f⟩ id=some (⟨[]⟩,6)/\CF ⟨f⟩ id=some (⟨[]⟩,6):=by
 constructor
 · unfold jA
   rw [GJ fok h];rfl
 · have hc:gI ⟨f⟩=some 0:=by rw [pA];exact congrArg some (eQ.2 fok)
   unfold CF;rw [hc,aB,bR rfl,cond_false,KN fok h];rfl
def HE (f:List Pt) (m:Nat) (p:Pt):List Pt:=f.take m++p::f.drop m
structure WV (f:List Pt) (p:Pt) (m:Nat):Prop where
 le:m<=f.length
 lo: ∀i,i<m->(f[i]!).1<p.1
 hi: ∀i,m<=i->i<f.length->p.1<(f[i]!).1
theorem O9 {f:List Pt} {m:Nat} (h:m<=f.length) (p:Pt):(HE f m p).length=f.length+1:=by
 unfold HE;rw [List.length_append,List.length_cons,List.length_take,List.length_drop];omega
theorem Q3 {f:List Pt} {m:Nat} (h:m<=f.length) (p:Pt) (i:Nat):(HE f m p)[i]! =if i<m then f[i]! else if i=m then p else f[i-1]!:=by
 have ht:(f.take m).length=m:=by rw [List.length_take];omega
 unfold HE;simp only [List.getElem!_eq_getElem?_getD]
 by_cases h1:i<m
 · rw [if_pos h1,List.getElem?_append_left (by omega),List.getElem?_take_of_lt h1]
 · rw [if_neg h1,List.getElem?_append_right (by omega),ht]
   by_cases h2:i=m
   · rw [if_pos h2,h2,Nat.sub_self];rfl
   · rw [if_neg h2,show i-m=(i-1-m)+1 by omega,List.getElem?_cons_succ,List.getElem?_drop,show m+(i-1-m)=i-1 by omega]
theorem aL1 {f:List Pt} (fok:bN f) {p:Pt} (po:gE p) {m:Nat} (h:WV f p m) (hl:f.length<64):bN (HE f m p):=by
 refine ⟨by rw [O9 h.le];omega,fun q hq=>?_,fun i hi=>?_⟩
 · rcases List.mem_append.1 hq with hq|hq
   · exact fok.2.1 q (List.mem_of_mem_take hq)
   · rcases List.mem_cons.1 hq with rfl|hq
     · exact po
     · exact fok.2.1 q (List.mem_of_mem_drop hq)
 · rw [O9 h.le] at hi
   rw [Q3 h.le,Q3 h.le];rcases Nat.lt_trichotomy (i+1) m with c|c|c
   · rw [if_pos (by omega),if_pos c];exact hO fok.2.2 (by omega) (by have:=h.le;omega)
   · rw [if_pos (by omega),if_neg (by omega),if_pos c];exact h.lo i (by omega)
   · rw [if_neg (show¬i+1<m by omega),if_neg (show¬i+1=m by omega),Nat.add_sub_cancel]
     by_cases d:i=m
     · rw [if_neg (by omega),if_pos d];exact h.hi i (by omega) (by omega)
     · rw [if_neg (by omega),if_neg d];exact hO fok.2.2 (by omega) (by omega)
theorem Y2 {f:List Pt} (fok:bN f) {p:Pt} (h: ¬pQ f p.1): ∃m,WV f p m/\lN ⟨f⟩ p.1=some ((m:Int),false):=by
 have h1:=fok.1;obtain ⟨m,a,b,c,e⟩:=(zI f p.1 (by omega) (fun i j=>hO fok.2.2)).2 (fun k hk he=>h ⟨k,hk,he⟩)
 refine ⟨m,⟨a,b,c⟩,?_⟩;unfold lN;rw [I5,e];rfl
theorem Y3 {f:List Pt} (fok:bN f) {id:Int} (h:pQ f id): ∃k,k<f.length/\(f[k]!).1=id/\lN ⟨f⟩ id=some ((k:Int),true):=by
 have h1:=fok.1;obtain ⟨k,hk,he⟩:=h;refine ⟨k,hk,he,?_⟩;unfold lN;rw [I5,(zI f id (by omega) (fun i j=>hO fok.2.2)).1 k hk he];rfl
theorem aL2 {f:List Pt} (_:bN f) {p:Pt} {m:Nat} (h:WV f p m) (hl:f.length<64):aH gD (false,0,f,p.1,p.2.1,p.2.2,[])=some (⟨HE f m p⟩,0):=by
 have hle:=h.le;have tl: ∀i,(f.take i).length<=64:=fun i=>by rw [List.length_take];omega
 have k1:=cN (body:=gD) (fun i=>(false,(i:Int),f,p.1,p.2.1,p.2.2,f.take i)) m (fun i hi=>by
  unfold gD;simp only [aF,aN (show (i:Int)<(f.length:Int) by omega),cond_true,Bool.not_false,aE f i (by omega),aB,aL (show¬p.1<(f[i]!).1 from Int.not_lt.2 (Int.le_of_lt (h.lo i hi))),cond_false,
   cI (show (f.take i).length+[f[i]!].length<=1048576 by have:=tl i;simp only [List.length_cons,List.length_nil];omega),aY (show i<1000000000 by omega),gA (show i<f.length by omega)])
 refine (show aH gD (false,0,f,p.1,p.2.1,p.2.2,[])=_ from k1).trans ?_;have pe:((p.1,p.2.1,p.2.2):Pt)=p:=rfl;rcases Nat.lt_or_ge m f.length with hm|hm
 · have s1:gD (false,(m:Int),f,p.1,p.2.1,p.2.2,f.take m)=some (.next (true,((m+1:Nat):Int),f,p.1,p.2.1,p.2.2,f.take m++[p]++[f[m]!])):=by
    unfold gD;simp only [aF,aN (show (m:Int)<(f.length:Int) by omega),cond_true,Bool.not_false,aE f m hm,aB,aN (h.hi m (Nat.le_refl _) hm),pe,
     cI (show (f.take m).length+[p].length<=1048576 by have:=tl m;simp only [List.length_cons,List.length_nil];omega),
     cI (show (f.take m++[p]).length+[f[m]!].length<=1048576 by have:=tl m;simp only [List.length_append,List.length_cons,List.length_nil];omega),aY (show m<1000000000 by omega)]
   rw [aU s1];have k2:=cN (body:=gD) (fun i=>(true,((m+1+i:Nat):Int),f,p.1,p.2.1,p.2.2,f.take m++[p]++(f.drop m).take (i+1))) (f.length- (m+1)) (fun i hi=>by
    have ed:(f.drop m).take (i+1+1)=(f.drop m).take (i+1)++[f[m+1+i]!]:=by
     rw [gA (show i+1<(f.drop m).length by rw [List.length_drop];omega),tV];congr 3;omega
    unfold gD;simp only [aF,aN (show ((m+1+i:Nat):Int)<(f.length:Int) by omega),cond_true,Bool.not_true,cond_false,aE f (m+1+i) (by omega),aB,
     cI (show (f.take m++[p]++(f.drop m).take (i+1)).length+[f[m+1+i]!].length<=1048576 by have:=tl m;simp only [List.length_append,List.length_take,List.length_drop,List.length_cons,List.length_nil] at this ⊢;omega),aY (show m+1+i<1000000000 by omega),ed]
    rw [List.append_assoc (f.take m++[p]),show m+1+i+1=m+1+(i+1) by omega])
   have e0:(f.drop m).take (0+1)=[f[m]!]:=by
    have:=VZ hm
    rw [show f.drop m=f[m]!::f.drop (m+1) by rw [getElem!_pos f m hm,List.getElem_cons_drop]];rfl
   rw [e0] at k2;refine (show aH gD (true,((m+1:Nat):Int),f,p.1,p.2.1,p.2.2,f.take m++[p]++[f[m]!])=_ from k2).trans (aI ?_);have ef:(f.drop m).take (f.length- (m+1)+1)=f.drop m:=List.take_of_length_le (by rw [List.length_drop];omega)
   rw [ef,show m+1+(f.length- (m+1))=f.length by omega]
   unfold gD HE;simp only [aF,aL (show¬(f.length:Int)<(f.length:Int) by omega),cond_false,Bool.not_true,List.append_assoc,List.singleton_append]
 · obtain rfl:m=f.length:=by omega
   refine aI ?_;unfold gD HE;simp only [aF,aL (show¬(f.length:Int)<(f.length:Int) by omega),cond_false,Bool.not_false,cond_true,pe,List.take_length,
    cI (show f.length+[p].length<=1048576 by simp only [List.length_cons,List.length_nil];omega),aB,List.drop_length]
theorem PA {f:List Pt} (fok:bN f) (p:Pt):
 (∃e:Int,e≠0/\iV ⟨f⟩ p=some (⟨[]⟩,e)/\xE ⟨f⟩ p=some (⟨[]⟩,e))\/
 (∃m,WV f p m/\ ¬pQ f p.1/\gE p/\f.length<64/\iV ⟨f⟩ p=some (⟨HE f m p⟩,0)/\xE ⟨f⟩ p=some (⟨HE f m p⟩,0)):=by
 have f1:=fok.1;have hc:dD ⟨f⟩=some 0:=by rw [fZ];exact congrArg some (eQ.2 fok)
 have hc2:gI ⟨f⟩=some 0:=by rw [pA];exact congrArg some (eQ.2 fok)
 by_cases po:gE p
 case neg=>
  refine .inl ⟨8,by decide,?_,?_⟩
  · unfold iV;rw [hc,aB,bR rfl,cond_false,gF,if_neg po];rfl
  · unfold xE;rw [hc2,aB,bR rfl,cond_false,iM,if_neg po];rfl
 by_cases hp:pQ f p.1
 · obtain ⟨k,hk,he,e⟩:=Y3 fok hp
   refine .inl ⟨14,by decide,?_,?_⟩
   · unfold iV;rw [hc,aB,bR rfl,cond_false,gF,if_pos po,aB,bR rfl,cond_false,e];rfl
   · unfold xE;rw [hc2,aB,bR rfl,cond_false,iM,if_pos po,aB,bR rfl,cond_false,FM fok.2.2 (by omega) hk he,aB,aN (show (0:Int)<=(k:Int) by omega)];rfl
 obtain ⟨m,hm,e⟩:=Y2 fok hp
 by_cases full:f.length=64
 · refine .inl ⟨18,by decide,?_,?_⟩
   · unfold iV;rw [hc,aB,bR rfl,cond_false,gF,if_pos po,aB,bR rfl,cond_false,e,aB,cond_false]
     simp only [aF,full];rfl
   · unfold xE;rw [hc2,aB,bR rfl,cond_false,iM,if_pos po,aB,bR rfl,cond_false,KN fok hp,aB,aL (by decide),cond_false]
     simp only [aF,full];rfl
 · have hl:f.length<64:=by omega
   have hf:(Int.ofNat f.length==64)=false:=by simp only [aF,beq_eq_false_iff_ne];omega
   refine .inr ⟨m,hm,hp,po,hl,?_,?_⟩
   · have hi:E4 f (m:Int) [p]=some (HE f m p):=by
      unfold E4;rw [if_pos ⟨by omega,by have:=hm.le;simpa using this,rfl,by omega⟩]
      simp [HE]
     unfold iV;rw [hc,aB,bR rfl,cond_false,gF,if_pos po,aB,bR rfl,cond_false,e,aB,cond_false,hf,cond_false,bI (show f.length<=1048576 by omega),aB,hi,aB]
   · unfold xE
     rw [hc2,aB,bR rfl,cond_false,iM,if_pos po,aB,bR rfl,cond_false,KN fok hp,aB,aL (by decide),cond_false,hf,cond_false]
     exact aL2 fok hm hl
theorem aSk {f:List Pt} (fok:bN f) {p:Pt} (po:gE p) {k:Nat} (hk:k<f.length) (he:(f[k]!).1=p.1):bN (f.set k p):=by
 refine ⟨by rw [List.length_set];exact fok.1,fun q hq=>?_,fun i hi=>?_⟩
 · rcases List.mem_or_eq_of_mem_set hq with h|rfl
   · exact fok.2.1 q h
   · exact po
 · rw [List.length_set] at hi
   have h:=hO fok.2.2 (show i<i+1 by omega) hi
   have g: ∀j:Nat,((f.set k p)[j]!).1=(f[j]!).1:=fun j=>by
    simp only [List.getElem!_eq_getElem?_getD,List.getElem?_set]
    by_cases c:k=j
    · subst c
      rw [if_pos rfl,if_pos hk];simp only [List.getElem!_eq_getElem?_getD] at he;exact he.symm
    · rw [if_neg c]
   rw [g,g];exact h
theorem JD {f:List Pt} (fok:bN f) (p:Pt):
 (∃e:Int,e≠0/\eU ⟨f⟩ p=some (⟨[]⟩,e)/\sQ ⟨f⟩ p=some (⟨[]⟩,e))\/
 (∃k,k<f.length/\(f[k]!).1=p.1/\gE p/\eU ⟨f⟩ p=some (⟨f.set k p⟩,0)/\sQ ⟨f⟩ p=some (⟨f.set k p⟩,0)):=by
 have f1:=fok.1;have hc:dD ⟨f⟩=some 0:=by rw [fZ];exact congrArg some (eQ.2 fok)
 have hc2:gI ⟨f⟩=some 0:=by rw [pA];exact congrArg some (eQ.2 fok)
 by_cases po:gE p
 case neg=>
  refine .inl ⟨8,by decide,?_,?_⟩
  · unfold eU;rw [hc,aB,bR rfl,cond_false,gF,if_neg po];rfl
  · unfold sQ;rw [hc2,aB,bR rfl,cond_false,iM,if_neg po];rfl
 by_cases hp:pQ f p.1
 case neg=>
  refine .inl ⟨6,by decide,?_,?_⟩
  · unfold eU;rw [hc,aB,bR rfl,cond_false,gF,if_pos po,aB,bR rfl,cond_false,GJ fok hp];rfl
  · unfold sQ;rw [hc2,aB,bR rfl,cond_false,iM,if_pos po,aB,bR rfl,cond_false,KN fok hp];rfl
 obtain ⟨k,hk,he⟩:=hp;have pl:=LK fok hk;rw [he] at pl;refine .inr ⟨k,hk,he,po,?_,?_⟩
 · unfold eU
   rw [hc,aB,bR rfl,cond_false,gF,if_pos po,aB,bR rfl,cond_false,pl,aB,bR rfl,cond_false,bI (show f.length<=1048576 by omega),aB,aE f k hk,aB,lI]
 · unfold sQ nF
   rw [hc2,aB,bR rfl,cond_false,iM,if_pos po,aB,bR rfl,cond_false,FM fok.2.2 (by omega) hk he,aB,aL (by omega),cond_false,bI (show f.length<=1048576 by omega),aB,aB,aE f k hk,aB,lI]
end Go.Proofs.YthljmpcakagceaaGreat
namespace Go.Proofs.YthljmpcakagceaaGreat
abbrev Nd:=Int×Int×Int
structure DC (P:Nat->Nat->Prop) (a b i:Nat):Prop where
 lo:a<=i
 hi:i<b
 top: ∀j,a<=j->j<b->j≠i->P i j
inductive nU (P:Nat->Nat->Prop) (N:List Nd):Nat->Nat->Int->Prop
 |nil {a b:Nat} (h:b<=a):nU P N a b (-1)
 |node {a b i:Nat} (h:DC P a b i) (l:nU P N a i (N[i]!).2.1) (r:nU P N (i+1) b (N[i]!).2.2):nU P N a b (i:Int)
structure aEp (P:Nat->Nat->Prop) (n:Nat):Prop where
 tr: ∀i j k,i<n->j<n->k<n->P i j->P j k->P i k
 asy: ∀i j,i<n->j<n->P i j-> ¬P j i
 tot: ∀i j,i<n->j<n->i≠j-> ¬P i j->P j i
theorem DC.one {P:Nat->Nat->Prop} {n a b i j:Nat} (o:aEp P n) (hb:b<=n) (h:DC P a b i) (k:DC P a b j):i=j:=by
 refine Classical.byContradiction fun hne=>?_
 have:=h.hi;have:=k.hi
 exact o.asy i j (by omega) (by omega) (h.top j k.lo k.hi (fun e=>hne e.symm)) (k.top i h.lo h.hi hne)
theorem nU.link {P:Nat->Nat->Prop} {N:List Nd} {a b:Nat} {r:Int} (h:nU P N a b r):(b<=a/\r= -1)\/(∃i:Nat,r=(i:Int)/\a<=i/\i<b):=by
 cases h with
 |nil h=>exact .inl ⟨h,rfl⟩
 |node h l r=>exact .inr ⟨_,rfl,h.lo,h.hi⟩
theorem nU.unique {P:Nat->Nat->Prop} {n:Nat} (o:aEp P n) {N N':List Nd} {a b:Nat} {r:Int} (h:nU P N a b r): ∀{r':Int},b<=n->nU P N' a b r'->r=r'/\ ∀k,a<=k->k<b->(N[k]!).2=(N'[k]!).2:=by
 induction h with
 |nil h=>
  intro r' hb h';cases h' with
  |nil _=>exact ⟨rfl,fun k h1 h2=>by omega⟩
  |node t _ _=>have:=t.lo;have:=t.hi;omega
 | @node a b i h l r ihl ihr=>
  intro r' hb h';have lo:=h.lo;have hi:=h.hi;cases h' with
  |nil q=>omega
  | @node _ _ j t l' r'=>
   have e:=h.one o hb t;subst e;obtain ⟨e1,f1⟩:=ihl (by omega) l'
   obtain ⟨e2,f2⟩:=ihr hb r';refine ⟨rfl,fun k h1 h2=>?_⟩
   rcases Nat.lt_trichotomy k i with q|q|q
   · exact f1 k h1 q
   · subst q;exact Prod.ext e1 e2
   · exact f2 k (by omega) h2
theorem nU.frame {P:Nat->Nat->Prop} {N N':List Nd} {a b:Nat} {r:Int} (h:nU P N a b r):(∀k,a<=k->k<b->(N[k]!).2=(N'[k]!).2)->nU P N' a b r:=by
 induction h with
 |nil h=>exact fun _=> .nil h
 | @node a b i h l r ihl ihr=>
  intro f;have lo:=h.lo;have hi:=h.hi;have e:=f i lo hi;refine .node h ?_ ?_
  · rw [<- e];exact ihl fun k h1 h2=>f k h1 (by omega)
  · rw [<- e];exact ihr fun k h1 h2=>f k (by omega) h2
theorem nU.other {P Q:Nat->Nat->Prop} {n:Nat} (o:aEp Q n) {N:List Nd} {a b:Nat} {r:Int} (h:nU P N a b r):b<=n->(∀k j:Nat,a<=k->k<b->a<=j->j<b->((N[k]!).2.1=(j:Int)\/(N[k]!).2.2=(j:Int))->Q k j)->nU Q N a b r:=by
 induction h with
 |nil h=>exact fun _ _=> .nil h
 | @node a b i h l r ihl ihr=>
  intro hb q;have lo:=h.lo;have hi:=h.hi;have tl:=ihl (by omega) fun k j h1 h2 h3 h4=>q k j h1 (by omega) h3 (by omega)
  have tr:=ihr hb fun k j h1 h2 h3 h4=>q k j (by omega) h2 (by omega) h4
  refine .node ⟨lo,hi,fun j h1 h2 hne=>?_⟩ tl tr
  rcases Nat.lt_or_ge j i with hj|hj
  · generalize hr:(N[i]!).2.1=s at tl
    cases tl with
    |nil q=>omega
    | @node _ _ m t _ _=>
     have t1:=t.lo;have t2:=t.hi;have qm:=q i m lo hi t1 (by omega) (.inl hr)
     by_cases e:j=m
     · rw [e];exact qm
     · exact o.tr i m j (by omega) (by omega) (by omega) qm (t.top j h1 hj e)
  · generalize hr:(N[i]!).2.2=s at tr
    cases tr with
    |nil q=>omega
    | @node _ _ m t _ _=>
     have t1:=t.lo;have t2:=t.hi;have qm:=q i m lo hi (by omega) t2 (.inr hr)
     by_cases e:j=m
     · rw [e];exact qm
     · exact o.tr i m j (by omega) (by omega) (by omega) qm (t.top j (by omega) h2 e)
theorem nU.kids {P:Nat->Nat->Prop} {N:List Nd} {a b:Nat} {r:Int} (h:nU P N a b r): ∀k,a<=k->k<b-> ∀c:Int,((N[k]!).2.1=c\/(N[k]!).2.2=c)->c= -1\/ ∃j:Nat,c=(j:Int)/\a<=j/\j<b/\j≠k/\P k j/\r≠c:=by
 induction h with
 |nil h=>intro k h1 h2;omega
 | @node a b i h l r ihl ihr=>
  have lo:=h.lo;have hi:=h.hi;intro k h1 h2 c hc;rcases Nat.lt_trichotomy k i with q|q|q
  · rcases ihl k h1 q c hc with e|⟨j,e,j1,j2,j3,j4,_⟩
    · exact .inl e
    · exact .inr ⟨j,e,j1,by omega,j3,j4,by rw [e];omega⟩
  · subst q
    rcases hc with hc|hc
    · rcases l.link with ⟨_,e⟩|⟨j,e,j1,j2⟩
      · exact .inl (hc▸e)
      · exact .inr ⟨j,hc▸e,j1,by omega,by omega,h.top j j1 (by omega) (by omega),by rw [<- hc,e];omega⟩
    · rcases r.link with ⟨_,e⟩|⟨j,e,j1,j2⟩
      · exact .inl (hc▸e)
      · exact .inr ⟨j,hc▸e,by omega,j2,by omega,h.top j (by omega) j2 (by omega),by rw [<- hc,e];omega⟩
  · rcases ihr k (by omega) h2 c hc with e|⟨j,e,j1,j2,j3,j4,_⟩
    · exact .inl e
    · exact .inr ⟨j,e,by omega,j2,j3,j4,by rw [e];omega⟩
theorem nU.up {P:Nat->Nat->Prop} {N:List Nd} {a b:Nat} {r:Int} (h:nU P N a b r): ∀k:Nat,a<=k->k<b->(k:Int)≠r-> ∃j,a<=j/\j<b/\((N[j]!).2.1=(k:Int)\/(N[j]!).2.2=(k:Int))/\ ∀m,a<=m->m<b->((N[m]!).2.1=(k:Int)\/(N[m]!).2.2=(k:Int))->m=j:=by
 induction h with
 |nil h=>intro k h1 h2;omega
 | @node a b i h l r ihl ihr=>
  have lo:=h.lo;have hi:=h.hi;have lk:=l.kids;have rk:=r.kids;intro k h1 h2 hne;have hki:k≠i:=fun e=>hne (by rw [e])
  rcases Nat.lt_or_ge k i with q|q
  · by_cases er:(k:Int)=(N[i]!).2.1
    · refine ⟨i,lo,hi,.inl er.symm,fun m m1 m2 hm=>?_⟩
      rcases Nat.lt_trichotomy m i with w|w|w
      · rcases lk m m1 w _ hm with e|⟨j,e,_,_,_,_,hr⟩
        · omega
        · exact absurd er.symm hr
      · exact w
      · rcases rk m (by omega) m2 _ hm with e|⟨j,e,j1,_⟩<;>omega
    · obtain ⟨j,j1,j2,j3,j4⟩:=ihl k h1 q er
      refine ⟨j,j1,by omega,j3,fun m m1 m2 hm=>?_⟩
      rcases Nat.lt_trichotomy m i with w|w|w
      · exact j4 m m1 w hm
      · subst w
        rcases hm with hm|hm
        · exact absurd hm.symm er
        · rcases r.link with ⟨_,e⟩|⟨p,e,p1,p2⟩<;>omega
      · rcases rk m (by omega) m2 _ hm with e|⟨p,e,p1,_⟩<;>omega
  · by_cases er:(k:Int)=(N[i]!).2.2
    · refine ⟨i,lo,hi,.inr er.symm,fun m m1 m2 hm=>?_⟩
      rcases Nat.lt_trichotomy m i with w|w|w
      · rcases lk m m1 w _ hm with e|⟨j,e,_,j2,_⟩<;>omega
      · exact w
      · rcases rk m (by omega) m2 _ hm with e|⟨j,e,_,_,_,_,hr⟩
        · omega
        · exact absurd er.symm hr
    · obtain ⟨j,j1,j2,j3,j4⟩:=ihr k (by omega) h2 er
      refine ⟨j,by omega,j2,j3,fun m m1 m2 hm=>?_⟩
      rcases Nat.lt_trichotomy m i with w|w|w
      · rcases lk m m1 w _ hm with e|⟨p,e,_,p2,_⟩<;>omega
      · subst w
        rcases hm with hm|hm
        · rcases l.link with ⟨_,e⟩|⟨p,e,p1,p2⟩<;>omega
        · exact absurd hm.symm er
      · exact j4 m (by omega) m2 hm
inductive zM (P:Nat->Nat->Prop) (N:List Nd):Nat->Nat->Int->List Nat->Prop
 |nil {a b:Nat} (h:b<=a):zM P N a b (-1) []
 |cons {a b k:Nat} {es:List Nat} (h:DC P a b k) (l:nU P N a k (N[k]!).2.1) (r:zM P N (k+1) b (N[k]!).2.2 es):zM P N a b (k:Int) (k::es)
theorem zM.tree {P:Nat->Nat->Prop} {N:List Nd} {a b:Nat} {r:Int} {es:List Nat} (h:zM P N a b r es):nU P N a b r:=by
 induction h with
 |nil h=>exact .nil h
 |cons h l r ih=>exact .node h l ih
theorem zM.mem {P:Nat->Nat->Prop} {N:List Nd} {a b:Nat} {r:Int} {es:List Nat} (h:zM P N a b r es): ∀e∈es,a<=e/\e<b:=by
 induction h with
 |nil h=>intro e he;cases he
 |cons h l r ih=>
  intro e he;have lo:=h.lo;have hi:=h.hi;rcases List.mem_cons.1 he with rfl|he
  · exact ⟨lo,hi⟩
  · have:=ih e he;omega
theorem hJ {α:Type} [Inhabited α] (x:α) (l:List α) (i:Nat):(x::l)[i+1]! =l[i]!:=by simp
theorem pD {α:Type} [Inhabited α] (x:α) (l:List α):(x::l)[0]! =x:=by simp
theorem zM.chain {P:Nat->Nat->Prop} {N:List Nd} {a b:Nat} {r:Int} {es:List Nat} (h:zM P N a b r es): ∀i j,i<j->j<es.length->P es[i]! es[j]!:=by
 induction h with
 |nil h=>intro i j _ hj;cases hj
 | @cons a b k es h l r ih=>
  intro i j hij hj;cases j with
  |zero=>omega
  |succ j=>
   rw [hJ];have hj:j<es.length:=by simpa using hj
   cases i with
   |zero=>
    rw [pD]
    have:=r.mem es[j]! (aZ hj)
    exact h.top _ (by have:=h.lo;omega) this.2 (by omega)
   |succ i=>rw [hJ];exact ih i j (by omega) hj
theorem zM.add {P:Nat->Nat->Prop} {N N':List Nd} {n:Nat} (o:aEp P n) {a b:Nat} {r:Int} {es:List Nat} (h:zM P N a b r es): ∀m,a<=b->b<n->m<=es.length->(∀j,j<m->P es[j]! b)->(∀j,m<=j->j<es.length-> ¬P es[j]! b)->
 (N'[b]!).2.1=(if m<es.length then (es[m]!:Int) else -1)->(N'[b]!).2.2= -1->
 (∀k,a<=k->k<b->(N'[k]!).2.1=(N[k]!).2.1/\((0<m/\k=es[m-1]!)->(N'[k]!).2.2=(b:Int))/\(¬(0<m/\k=es[m-1]!)->(N'[k]!).2.2=(N[k]!).2.2))->
 zM P N' a (b+1) (if m=0 then (b:Int) else r) (es.take m++[b]):=by
 induction h with
 | @nil a b h=>
  intro m hab hb hm _ _ hl hr _
  have:m=0:=by simpa using hm
  subst this;rw [if_pos rfl];have hl:(N'[b]!).2.1= -1:=hl;refine .cons ⟨hab,by omega,fun j h1 h2 h3=>by omega⟩ ?_ ?_
  · rw [hl];exact .nil h
  · rw [hr];exact .nil (by omega)
 | @cons a b k es h l r ih=>
  intro m hab hb hm hP hN hl hr hf;have lo:=h.lo;have hi:=h.hi;cases m with
  |zero=>
   rw [if_pos rfl];have hl:(N'[b]!).2.1=(k:Int):=by rw [hl,if_pos (by simp)];rfl
   have t:nU P N a b (k:Int):= .node h l r.tree;have nk: ¬P k b:=hN 0 (Nat.le_refl _) (by simp)
   have kb:P b k:=o.tot k b (by omega) hb (by omega) nk
   refine .cons ⟨hab,by omega,fun j h1 h2 h3=>?_⟩ ?_ ?_
   · by_cases e:j=k
     · rw [e];exact kb
     · exact o.tr b k j hb (by omega) (by omega) kb (h.top j h1 (by omega) e)
   · rw [hl]
     refine t.frame fun j h1 h2=>?_
     obtain ⟨f1,_,f3⟩:=hf j h1 h2;exact Prod.ext f1.symm (f3 (by omega)).symm
   · rw [hr];exact .nil (by omega)
  |succ m=>
   rw [if_neg (by omega)]
   have hm:m<=es.length:=by simpa using hm
   have pk:P k b:=by have:=hP 0 (by omega);rwa [pD] at this
   have mem:=r.mem;have top:DC P a (b+1) k:=⟨lo,by omega,fun j h1 h2 h3=>by
    by_cases e:j=b
    · rw [e];exact pk
    · exact h.top j h1 (by omega) h3⟩
   have lt:nU P N' a k (N'[k]!).2.1:=by
    rw [(hf k lo hi).1];refine l.frame fun j h1 h2=>?_
    obtain ⟨f1,_,f3⟩:=hf j h1 (by omega)
    refine Prod.ext f1.symm (f3 (fun q=>?_)).symm
    have q2:=q.2;cases m with
    |zero=>rw [show 0+1-1=0 from rfl,pD] at q2;omega
    |succ m=>
     rw [show m+1+1-1=m+1 from rfl,hJ] at q2
     have:=mem es[m]! (aZ (by omega));omega
   have rt:=ih m (by omega) hb hm (fun j hj=>by have:=hP (j+1) (by omega);rwa [hJ] at this) (fun j h1 h2=>by have:=hN (j+1) (by omega) (by simpa using h2);rwa [hJ] at this)
    (by
     rw [hl]
     by_cases q:m<es.length
     · rw [if_pos q,if_pos (by simpa using q),hJ]
     · rw [if_neg q,if_neg (by simpa using q)]) hr (fun j h1 h2=>by
     obtain ⟨f1,f2,f3⟩:=hf j (by omega) h2
     refine ⟨f1,fun q=>f2 ⟨by omega,?_⟩,fun q=>f3 (fun w=>q ?_)⟩
     · obtain ⟨q1,q2⟩:=q
       rw [show m+1-1=(m-1)+1 by omega,hJ];exact q2
     · obtain ⟨_,w2⟩:=w
       cases m with
       |zero=>rw [show 0+1-1=0 from rfl,pD] at w2;omega
       |succ m=>rw [show m+1+1-1=m+1 from rfl,hJ] at w2;exact ⟨by omega,w2⟩)
   rw [show (k::es).take (m+1)++[b]=k::(es.take m++[b]) from rfl];refine .cons top lt ?_;obtain ⟨_,f2,f3⟩:=hf k lo hi
   by_cases m0:m=0
   · subst m0
     rw [if_pos rfl] at rt;rw [f2 ⟨by omega,by rw [show 0+1-1=0 from rfl,pD]⟩]
     exact rt
   · rw [if_neg m0] at rt
     rw [f3 (fun w=>?_)]
     · exact rt
     · have w2:=w.2
       rw [show m+1-1=(m-1)+1 by omega,hJ] at w2
       have:=mem es[m-1]! (aZ (by omega));omega
end Go.Proofs.YthljmpcakagceaaGreat
namespace Go.Proofs.YthljmpcakagceaaGreat
open Go.Vm Classical
def PI (f:List Pt) (t:Int×Int) (i j:Nat):Prop:=eO f[i]! f[j]! t
theorem zN {p q:Pt} {t:Int×Int} (h:eO p q t): ¬eO q p t:=by
 unfold eO at*;rw [TD] at*;generalize p.2.1*t.2+p.2.2*t.1=a at*;generalize q.2.1*t.2+q.2.2*t.1=b at*;omega
theorem MD {f:List Pt} (h:fY f) (t:Int×Int):aEp (PI f t) f.length where
 tr:=fun _ _ _ _ _ _ h1 h2=>EP h1 h2
 asy:=fun _ _ _ _ h=>zN h
 tot:=fun _ _ hi hj hne hn=>zL t (fun e=>hne (qQ h hi hj e)) hn
structure fL (f:List Pt) (t:Int×Int) (N:List Nd) (r:Int):Prop where
 len:N.length=f.length
 ids: ∀k,k<f.length->(N[k]!).1=(f[k]!).1
 tree:nU (PI f t) N 0 f.length r
theorem fL.same {f:List Pt} (h:fY f) {t:Int×Int} {N N':List Nd} {r r':Int} (a:fL f t N r) (b:fL f t N' r'):N=N'/\r=r':=by
 obtain ⟨e1,e2⟩:=a.tree.unique (MD h t) (Nat.le_refl _) b.tree;refine ⟨EE (by rw [a.len,b.len]) fun k hk=>?_,e1⟩
 have hk:k<f.length:=by rw [<- a.len];exact hk
 exact Prod.ext (by rw [a.ids k hk,b.ids k hk]) (e2 k (Nat.zero_le _) hk)
def Below (N:List Nd) (k j:Nat):Prop:=(N[j]!).2.1=(k:Int)\/(N[j]!).2.2=(k:Int)
noncomputable def nM (N:List Nd) (k:Nat):Nat:=if h: ∃j,j<N.length/\Below N k j then h.choose else N.length
noncomputable def BG (N:List Nd) (k:Nat):List (Int×Int):=if nM N k<N.length then [((N[k]!).1,(N[nM N k]!).1)] else []
noncomputable def bO (N:List Nd):Nat->List (Int×Int)
 |0=>[]
 |k+1=>bO N k++BG N k
theorem nN (N:List Nd): ∀k,(bO N k).length<=k
 |0=>Nat.le_refl _
 |k+1=>by
  have:=nN N k
  rw [bO,List.length_append];unfold BG;split
  · simp only [List.length_singleton];omega
  · simp only [List.length_nil];omega
theorem CT {N:List Nd}: ∀{n:Nat} {e:Int×Int},e∈bO N n↔ ∃k,k<n/\nM N k<N.length/\e=((N[k]!).1,(N[nM N k]!).1)
 |0,e=>by
  constructor
  · intro h;cases h
  · rintro ⟨k,h,_⟩;omega
 |n+1,e=>by
  rw [bO,List.mem_append,CT];constructor
  · rintro (⟨k,h1,h2⟩|h)
    · exact ⟨k,by omega,h2⟩
    · unfold BG at h
      split at h
      · exact ⟨n,by omega,by assumption,List.mem_singleton.1 h⟩
      · cases h
  · rintro ⟨k,h1,h2,h3⟩
    by_cases q:k=n
    · subst q
      right;unfold BG;rw [if_pos h2,h3];exact List.mem_singleton.2 rfl
    · exact .inl ⟨k,by omega,h2,h3⟩
section
variable {f : List Pt} {t : Int × Int} {N : List Nd} {r : Int}
theorem fL.par (h:fL f t N r) {k:Nat} (hk:k<f.length):((k:Int)=r->nM N k=N.length)/\((k:Int)≠r->nM N k<N.length/\Below N k (nM N k)/\nM N k≠k/\PI f t (nM N k) k)/\ ∀m,m<N.length->Below N k m->m=nM N k:=by
 have ln:=h.len
 by_cases hr:(k:Int)=r
 · have none: ¬ ∃j,j<N.length/\Below N k j:=by
    rintro ⟨j,hj,hb⟩;rcases h.tree.kids j (Nat.zero_le _) (by omega) (k:Int) hb with e|⟨_,_,_,_,_,_,e⟩
    · omega
    · exact e hr.symm
   have e:nM N k=N.length:=by unfold nM;rw [dif_neg none]
   exact ⟨fun _=>e,fun q=>absurd hr q,fun m hm hb=>absurd ⟨m,hm,hb⟩ none⟩
 · obtain ⟨j,_,j2,j3,j4⟩:=h.tree.up k (Nat.zero_le _) hk hr
   have ex: ∃j,j<N.length/\Below N k j:=⟨j,by omega,j3⟩
   have e:nM N k=j:=by
    unfold nM;rw [dif_pos ex]
    have:=ex.choose_spec
    exact j4 _ (Nat.zero_le _) (by omega) this.2
   refine ⟨fun q=>absurd q hr,fun _=>?_,fun m hm hb=>by rw [e];exact j4 m (Nat.zero_le _) (by omega) hb⟩
   rw [e];refine ⟨by omega,j3,?_,?_⟩
   · rcases h.tree.kids j (Nat.zero_le _) j2 (k:Int) j3 with q|⟨i,q,_,_,q2,_⟩
     · omega
     · intro w;omega
   · rcases h.tree.kids j (Nat.zero_le _) j2 (k:Int) j3 with q|⟨i,q,_,_,_,q2,_⟩
     · omega
     · have:i=k:=by omega
       rw [<- this];exact q2
theorem fL.edges (fok:bN f) (h:fL f t N r):JA f (bO N f.length)/\(bO N f.length).Nodup/\ ∀e∈bO N f.length,eO (kJ f e.2) (kJ f e.1) t:=by
 have ln:=h.len;have f1:=fok.1;have inf: ∀e∈bO N f.length,∃k j,k<f.length/\j<f.length/\j≠k/\PI f t j k/\e=((f[k]!).1,(f[j]!).1):=by
  intro e he;obtain ⟨k,k1,k2,k3⟩:=CT.1 he;have hp:=h.par k1;have hr:(k:Int)≠r:=fun q=>by have:=hp.1 q;omega
  obtain ⟨p1,p2,p3,p4⟩:=hp.2.1 hr;exact ⟨k,nM N k,k1,by omega,p3,p4,by rw [k3,h.ids k k1,h.ids (nM N k) (by omega)]⟩
 have hb: ∀e∈bO N f.length,kH f e:=fun e he=>by
  obtain ⟨k,j,k1,j1,_,_,rfl⟩:=inf e he;exact ⟨⟨k,k1,rfl⟩,⟨j,j1,rfl⟩⟩
 refine ⟨⟨Nat.le_trans (nN N _) (by omega),fun e he=>?_,hb⟩,?_,fun e he=>?_⟩
 · obtain ⟨⟨p1,p2⟩,q1,q2⟩:=And.intro (iF fok (hb e he).1) (iF fok (hb e he).2)
   obtain ⟨k,j,k1,j1,ne,_,rfl⟩:=inf e he
   have:(f[k]!).1≠(f[j]!).1:=fun q=>ne (qQ fok.2.2 k1 j1 q).symm
   unfold gE at p1 q1;unfold gM;dsimp only at*;omega
 · have go: ∀n,n<=f.length->(bO N n).Nodup:=by
    intro n
    induction n with
    |zero=>exact fun _=>List.nodup_nil
    |succ n ih=>
     intro hn;rw [bO,List.nodup_append];refine ⟨ih (by omega),?_,fun x hx y hy e=>?_⟩
     · unfold BG;split
       · exact List.nodup_cons.2 ⟨List.not_mem_nil,List.nodup_nil⟩
       · exact List.nodup_nil
     · subst e
       obtain ⟨k,k1,_,k3⟩:=CT.1 hx;unfold BG at hy;split at hy
       · have hy:=List.mem_singleton.1 hy
         rw [k3] at hy;have e1:(N[k]!).1=(N[n]!).1:=(Prod.mk.inj hy).1;rw [h.ids k (by omega),h.ids n (by omega)] at e1
         have:=qQ fok.2.2 (by omega) (by omega) e1
         omega
       · cases hy
   exact go _ (Nat.le_refl _)
 · obtain ⟨k,j,k1,j1,_,p,rfl⟩:=inf e he
   rw [zJ fok.2.2 j1 rfl,zJ fok.2.2 k1 rfl];exact p
end
theorem aSl {f:List Pt} (fok:bN f) {t:Int×Int} (r:bQ t) (r64:oC t) {i j:Nat} (hi:i<f.length) (hj:j<f.length) (hne:i≠j):lC f[i]! f[j]! t=some (decide (PI f t i j),0):=by
 have ne:(f[i]!).1≠(f[j]!).1:=fun h=>hne (qQ fok.2.2 hi hj h)
 rcases DB (fok.2.1 _ (aZ hi)) (fok.2.1 _ (aZ hj)) r64 r with h|⟨h,_⟩
 · rw [h,if_neg ne];rfl
 · exact absurd h ne
def eI (es:List Nat):List Int:=es.map fun e:Nat=>(e:Int)
theorem aAQ (E:List Int) (m:Nat) (x:Int) (h:m+1<=E.length):(jD E m [x]).length=E.length:=by
 unfold jD;simp only [List.length_append,List.length_take,List.length_drop,List.length_singleton];omega
theorem aEq (es:List Nat):(eI es).length=es.length:=List.length_map ..
theorem aL3 (es:List Nat) {j:Nat} (h:j<es.length):(eI es)[j]! =(es[j]!:Int):=by
 rw [getElem!_pos (eI es) j (by rw [aEq];exact h),getElem!_pos es j h]
 exact List.getElem_map ..
theorem aAR (es:List Nat) (m:Nat):eI (es.take m)=(eI es).take m:=List.map_take ..
def o2 (f:List Pt) (t:Int×Int) (e c:Nat) (i:Nat) (root:Int) (N:List Nd) (E:List Int):=
 (e,c,f,(f.length:Int),(i:Int),f,t.1,t.2,(0:Int),root,N,E)
def o1 (f:List Pt) (t:Int×Int) (e c:Nat) (i:Nat) (root:Int) (N:List Nd) (E:List Int) (left:Int):=
 (e,c,(i:Int),f,(f.length:Int),(i:Int),f,t.1,t.2,(0:Int),root,N,E,(f[i]!).1,(f[i]!).2.1,(f[i]!).2.2,(f[i]!).1,left,(-1:Int))
def AP (f:List Pt) (N:List Nd) (es:List Nat) (i m:Nat):List Nd:=
 (if m=0 then N else N.set es[m-1]! ((N[es[m-1]!]!).1,(N[es[m-1]!]!).2.1,(i:Int)))++[((f[i]!).1,if m<es.length then (es[m]!:Int) else -1,-1)]
theorem aU4 {f:List Pt} (fok:bN f) {t:Int×Int} (r:bQ t) (r64:oC t) {i:Nat} (hi:i<f.length) {es:List Nat} (hes: ∀e∈es,e<i) {N:List Nd} (hN:N.length=i) {root:Int} {E:List Int} (hE:E.take es.length=eI es) (le:es.length<=E.length) (lE:E.length<=1000):
 ∀(e:Nat),e<=es.length->(∀j,e<=j->j<es.length-> ¬PI f t es[j]! i)->
  ∃(m:Nat) (E':List Int),m<=e/\(0<m->PI f t es[m-1]! i)/\(∀j,m<=j->j<es.length-> ¬PI f t es[j]! i)/\E'.take (m+1)=eI (es.take m++[i])/\m+1<=E'.length/\E'.length<=E.length+1/\
   aH sG (o1 f t e E.length i root N E (if e<es.length then (es[e]!:Int) else -1))=some (.next (o2 f t (m+1) E'.length (i+1) (if m=0 then (i:Int) else root) (AP f N es i m) E')):=by
 have f1:=fok.1;have sc:=aY (show i<1000000000 by omega)
 have put: ∀m,m<=es.length-> ∃E':List Int,E'.take (m+1)=eI (es.take m++[i])/\m+1<=E'.length/\E'.length<=E.length+1/\
  ((m+1<=E.length->E'=jD E m [(i:Int)])/\(¬m+1<=E.length->E'=E.take m++[(i:Int)])):=by
  intro m hm;have tm:E.take m=eI (es.take m):=by rw [aAR,<- hE,List.take_take,Nat.min_eq_left hm]
  have ei:eI (es.take m++[i])=eI (es.take m)++[(i:Int)]:=List.map_append ..;have lm:(E.take m++[(i:Int)]).length=m+1:=by rw [List.length_append,List.length_take,List.length_singleton];omega
  by_cases h:m+1<=E.length
  · refine ⟨jD E m [(i:Int)],?_,?_,?_,fun _=>rfl,fun q=>absurd h q⟩
    · unfold jD
      rw [ei,<- tm,List.take_append_of_le_length (by omega),List.take_of_length_le (by omega)]
    · unfold jD;rw [List.length_append];omega
    · unfold jD;rw [List.length_append,lm,List.length_drop,List.length_singleton];omega
  · refine ⟨E.take m++[(i:Int)],?_,by omega,by omega,fun q=>absurd q h,fun _=>rfl⟩
    rw [List.take_of_length_le (by omega),ei,tm]
 have en: ∀(s:Nat),([(i:Int)]:List Int).length=1:=fun _=>rfl
 have ble_t: ∀{a b:Nat},a<=b->Nat.ble a b=true:=fun h=>Nat.ble_eq_true_of_le h
 have ble_f: ∀{a b:Nat},¬a<=b->Nat.ble a b=false:=fun h=>by
  cases hb:Nat.ble _ _ with
  |false=>rfl
  |true=>exact absurd (Nat.le_of_ble_eq_true hb) h
 intro e
 induction e with
 |zero=>
  intro _ hall;obtain ⟨E',e1,e2,e3,e4,e5⟩:=put 0 (Nat.zero_le _);refine ⟨0,E',Nat.le_refl _,fun h=>absurd h (Nat.lt_irrefl _),hall,e1,e2,e3,aI ?_⟩
  have ap: ∀x:Nd,bJ N [x]=some (N++[x]):=fun x=>cI (by rw [List.length_singleton];omega)
  have ap2:bJ (E.take 0) [(i:Int)]=some (E.take 0++[(i:Int)]):=cI (by rw [List.length_singleton,List.length_take];omega)
  unfold sG o1 o2 AP
  by_cases h:0+1<=E.length
  · simp only [aF,aL (show¬(0:Int)<((0:Nat):Int) by omega),cond_false,ap,aB,List.length_singleton,ble_t h,cond_true,Bool.not_false,Bool.and_self,sc,e4 h,if_true]
    rw [aAQ _ _ _ h]
  · simp only [aF,aL (show¬(0:Int)<((0:Nat):Int) by omega),cond_false,ap,aB,List.length_singleton,ble_f h,ap2,ble_t (Nat.zero_le E.length),cond_true,sc,e5 h,if_true]
    rfl
 |succ e ih=>
  intro he hall;have tk:E.take (e+1)=eI (es.take (e+1)):=by rw [aAR,<- hE,List.take_take,Nat.min_eq_left he]
  have lt:(eI (es.take (e+1))).length=e+1:=by rw [aEq,List.length_take];omega
  have ge:aO (E.take (e+1)) ((e:Nat):Int)=some (es[e]!:Int):=by
   rw [tk,aE _ e (by omega),aL3 _ (by rw [List.length_take];omega),mQ (by omega)]
  have ew:aA .i64 (((e+1:Nat):Int) -1)=((e:Nat):Int):=by rw [zD ⟨by omega,by omega⟩];omega
  have eb:es[e]!<i:=hes _ (aZ (by omega))
  have gp:=aE f es[e]! (by omega)
  have ah:=aSl fok (t:=(t.1,t.2)) r r64 (i:=es[e]!) (j:=i) (by omega) hi (by omega)
  have gn:=aE N es[e]! (by omega)
  have peta:((f[i]!).1,(f[i]!).2.1,(f[i]!).2.2)=f[i]!:=rfl
  by_cases c:PI f t es[e]! i
  · rw [show decide (PI f (t.1,t.2) es[e]! i)=true from aN c] at ah
    obtain ⟨E',e1,e2,e3,e4,e5⟩:=put (e+1) he;refine ⟨e+1,E',Nat.le_refl _,fun _=>c,hall,e1,e2,e3,aI ?_⟩
    have ap: ∀(y x:Nd),bJ (N.set es[e]! y) [x]=some (N.set es[e]! y++[x]):=fun y x=>cI (by rw [List.length_singleton,List.length_set];omega)
    have ap2:bJ (E.take (e+1)) [(i:Int)]=some (E.take (e+1)++[(i:Int)]):=cI (by rw [List.length_singleton,List.length_take];omega)
    unfold sG o1 o2 AP;rw [show e+1-1=e from rfl,if_neg (Nat.succ_ne_zero e),if_neg (Nat.succ_ne_zero e)]
    by_cases h:e+1+1<=E.length
    · simp only [aF,aN (show (0:Int)<((e+1:Nat):Int) by omega),cond_true,ew,ge,aB,gp,peta,ah,gn,lI,ap,List.length_singleton,ble_t h,Bool.not_false,Bool.and_self,sc,e4 h]
      rw [aAQ _ _ _ h]
    · simp only [aF,aN (show (0:Int)<((e+1:Nat):Int) by omega),cond_true,ew,ge,aB,gp,peta,ah,gn,lI,ap,List.length_singleton,ble_f h,cond_false,ap2,ble_t (show e+1<=E.length by omega),sc,e5 h]
      rw [show (E.take (e+1)++[(i:Int)]).length=e+1+1 from by rw [List.length_append,List.length_take,List.length_singleton];omega]
  · rw [show decide (PI f (t.1,t.2) es[e]! i)=false from aL c] at ah
    obtain ⟨m,E',h1,h2,h3,h4,h5,h6,h7⟩:=ih (by omega) (fun j j1 j2=>by
     by_cases q:j=e
     · rw [q];exact c
     · exact hall j (by omega) j2)
    refine ⟨m,E',by omega,h2,h3,h4,h5,h6,?_⟩
    rw [if_pos (show e<es.length by omega)] at h7
    rw [<- h7];refine aU ?_;unfold sG o1;simp only [aF,aN (show (0:Int)<((e+1:Nat):Int) by omega),cond_true,ew,ge,aB,gp,peta,ah,cond_false,aN (show (0:Int)<=((e:Nat):Int) by omega),aN (show ((e:Nat):Int)<=(E.length:Int) by omega),Bool.and_self,Int.toNat_natCast]
theorem aL4 {f:List Pt} {N:List Nd} {es:List Nat} {i m:Nat} (hN:N.length=i) (hes: ∀e∈es,e<i) (hm:m<=es.length):
 (AP f N es i m).length=i+1/\(AP f N es i m)[i]! =((f[i]!).1,if m<es.length then (es[m]!:Int) else -1,-1)/\
 ∀k,k<i->((AP f N es i m)[k]!).1=(N[k]!).1/\((AP f N es i m)[k]!).2.1=(N[k]!).2.1/\((0<m/\k=es[m-1]!)->((AP f N es i m)[k]!).2.2=(i:Int))/\(¬(0<m/\k=es[m-1]!)->((AP f N es i m)[k]!).2.2=(N[k]!).2.2):=by
 unfold AP
 by_cases m0:m=0
 · rw [if_pos m0]
   refine ⟨by rw [List.length_append,hN];rfl,?_,fun k hk=>?_⟩
   · rw [iL (by omega),hN,Nat.sub_self];rfl
   · rw [iI (by omega)]
     exact ⟨rfl,rfl,fun q=>by omega,fun _=>rfl⟩
 · rw [if_neg m0]
   have hb:=hes _ (aZ (show m-1<es.length by omega))
   refine ⟨by rw [List.length_append,List.length_set,hN];rfl,?_,fun k hk=>?_⟩
   · rw [iL (by rw [List.length_set];omega),List.length_set,hN,Nat.sub_self];rfl
   · rw [iI (by rw [List.length_set];omega),bH]
     by_cases q:k=es[m-1]!
     · rw [if_pos ⟨q,by omega⟩,q]
       exact ⟨rfl,rfl,fun _=>rfl,fun w=>absurd ⟨by omega,rfl⟩ w⟩
     · rw [if_neg (fun w=>q w.1)]
       exact ⟨rfl,rfl,fun w=>absurd w.2 q,fun _=>rfl⟩
theorem aU5 {f:List Pt} (fok:bN f) {t:Int×Int} (r:bQ t) (r64:oC t): ∀(d i:Nat) (es:List Nat) (N:List Nd) (root:Int) (E:List Int),f.length-i<=d->i<=f.length->N.length=i->(∀k,k<i->(N[k]!).1=(f[k]!).1)->
 zM (PI f t) N 0 i root es->E.take es.length=eI es->es.length<=E.length->E.length<=i->
 ∃(root':Int) (N':List Nd),aH pK (o2 f t es.length E.length i root N E)=some (⟨root',N'⟩,0)/\fL f t N' root':=by
 have f1:=fok.1;have fin: ∀(es:List Nat) (N:List Nd) (root:Int) (E:List Int),N.length=f.length->(∀k,k<f.length->(N[k]!).1=(f[k]!).1)->zM (PI f t) N 0 f.length root es->
  ∃(root':Int) (N':List Nd),aH pK (o2 f t es.length E.length f.length root N E)=some (⟨root',N'⟩,0)/\fL f t N' root':=fun es N root E h1 h2 h3=>
  ⟨root,N,aI (by
   unfold pK o2;simp only [aL (show¬(f.length:Int)<(f.length:Int) by omega),cond_false]),⟨h1,h2,h3.tree⟩⟩
 intro d
 induction d with
 |zero=>
  intro i es N root E hd hi h1 h2 h3 _ _ _
  have:i=f.length:=by omega
  subst this;exact fin es N root E h1 h2 h3
 |succ d ih=>
  intro i es N root E hd hi h1 h2 h3 h4 h5 h6
  by_cases he:i=f.length
  · subst he;exact fin es N root E h1 h2 h3
  have hi':i<f.length:=by omega
  have o:=MD fok.2.2 t;have mem:=h3.mem;have hes: ∀e∈es,e<i:=fun e he=>(mem e he).2
  obtain ⟨m,E',m1,m2,m3,m4,m5,m6,m7⟩:=aU4 fok r r64 hi' hes h1 (root:=root) h4 h5 (by omega) es.length (Nat.le_refl _) (fun j j1 j2=>by omega)
  rw [if_neg (Nat.lt_irrefl _)] at m7;have st:pK (o2 f t es.length E.length i root N E)=some (.next (o2 f t (m+1) E'.length (i+1) (if m=0 then (i:Int) else root) (AP f N es i m) E')):=by
   unfold pK
   conv=>lhs;unfold o2
   simp only [aN (show (i:Int)<(f.length:Int) by omega),cond_true,aE f i hi',aB]
   exact m7
  obtain ⟨a1,a2,a3⟩:=aL4 (f:=f) h1 hes m1;have sp:=h3.add o (N':=AP f N es i m) m (Nat.zero_le _) hi' m1 (fun j hj=>by
   by_cases q:j=m-1
   · rw [q];exact m2 (by omega)
   · have hj':=hes _ (aZ (show j<es.length by omega))
     have hm':=hes _ (aZ (show m-1<es.length by omega))
     exact o.tr _ es[m-1]! _ (by omega) (by omega) hi' (h3.chain j (m-1) (by omega) (by omega)) (m2 (by omega))) m3
   (by rw [a2]) (by rw [a2]) (fun k _ hk=>by
    obtain ⟨_,b2,b3,b4⟩:=a3 k hk;exact ⟨b2,b3,b4⟩)
  have le:(es.take m++[i]).length=m+1:=by rw [List.length_append,List.length_take,List.length_singleton];omega
  rw [aU st]
  have:=ih (i+1) (es.take m++[i]) (AP f N es i m) (if m=0 then (i:Int) else root) E' (by omega) (by omega) a1 (fun k hk=>by
   by_cases q:k=i
   · rw [q,a2]
   · rw [(a3 k (by omega)).1];exact h2 k (by omega)) sp (by rw [le];exact m4) (by rw [le];exact m5) (by omega)
  rw [le] at this;exact this
theorem aAS {f:List Pt} (fok:bN f) {t:Int×Int} (r:bQ t) (r64:oC t): ∃(root:Int) (N:List Nd),rF ⟨f⟩ t=some (⟨root,N⟩,0)/\fL f t N root:=by
 obtain ⟨root,N,h1,h2⟩:=aU5 fok r r64 f.length 0 [] [] (-1) [] (by omega) (by omega) rfl (fun k hk=>by omega) (.nil (Nat.le_refl _)) rfl (Nat.le_refl _) (Nat.le_refl _)
 refine ⟨root,N,?_,h2⟩;have hc:dD ⟨f⟩=some 0:=by rw [fZ];exact congrArg some (eQ.2 fok)
 unfold rF B9;rw [hc,aB,bR rfl,cond_false,eJ r64,if_pos r,aB,aB,bR rfl,cond_false];exact h1
theorem aSm {f:List Pt} (fok:bN f) {t:Int×Int} (r64:oC t) {a b:Nat} (hb:b<=f.length): ∀(d j best:Nat),b-j<=d->j<=b->DC (PI f t) a j best-> ∃i:Nat,aH kX ((b:Int),(best:Int),(j:Int),f,t)=some (i:Int)/\DC (PI f t) a b i:=by
 have f1:=fok.1;have o:=MD fok.2.2 t;have fin: ∀best:Nat,DC (PI f t) a b best-> ∃i:Nat,aH kX ((b:Int),(best:Int),(b:Int),f,t)=some (i:Int)/\DC (PI f t) a b i:=fun best h=>⟨best,aI (by
  unfold kX;simp only [aL (show¬(b:Int)<(b:Int) by omega),cond_false]),h⟩
 intro d
 induction d with
 |zero=>
  intro j best hd hj h
  have:j=b:=by omega
  subst this;exact fin best h
 |succ d ih=>
  intro j best hd hj h
  by_cases he:j=b
  · subst he;exact fin best h
  have h1:=h.lo;have h2:=h.hi;have sc:=aY (show j<1000000000 by omega)
  have ld:=OH (fok.2.1 _ (aZ (show j<f.length by omega))) (fok.2.1 _ (aZ (show best<f.length by omega))) r64
  by_cases c:PI f t j best
  · rw [show decide (eO f[j]! f[best]! t)=true from aN c] at ld
    rw [aU (y:=((b:Int),(j:Int),((j+1:Nat):Int),f,t)) (by
     unfold kX;simp only [aN (show (j:Int)<(b:Int) by omega),cond_true,aL (show¬(best:Int)<0 by omega),cond_false,aE f j (by omega),aE f best (by omega),aB,ld,sc])]
    refine ih (j+1) j (by omega) (by omega) ⟨by omega,by omega,fun k k1 k2 k3=>?_⟩
    by_cases q:k=best
    · rw [q];exact c
    · exact o.tr j best k (by omega) (by omega) (by omega) c (h.top k k1 (by omega) q)
  · rw [show decide (eO f[j]! f[best]! t)=false from aL c] at ld
    rw [aU (y:=((b:Int),(best:Int),((j+1:Nat):Int),f,t)) (by
     unfold kX;simp only [aN (show (j:Int)<(b:Int) by omega),cond_true,aL (show¬(best:Int)<0 by omega),cond_false,aE f j (by omega),aE f best (by omega),aB,ld,sc])]
    refine ih (j+1) best (by omega) (by omega) ⟨h1,by omega,fun k k1 k2 k3=>?_⟩
    by_cases q:k=j
    · rw [q];exact o.tot j best (by omega) (by omega) (by omega) c
    · exact h.top k k1 (by omega) k3
theorem aSn {f:List Pt} (fok:bN f) {t:Int×Int} (r64:oC t) {a b:Nat} (hab:a<b) (hb:b<=f.length): ∃i:Nat,wZ ⟨f⟩ t (a:Int) (b:Int)=some (i:Int)/\DC (PI f t) a b i:=by
 have f1:=fok.1;obtain ⟨i,h1,h2⟩:=aSm fok r64 hb (b- (a+1)) (a+1) a (by omega) (by omega) (show DC (PI f t) a (a+1) a from ⟨by omega,by omega,fun k k1 k2 k3=>by omega⟩)
 refine ⟨i,?_,h2⟩;unfold wZ;rw [aU (y:=((b:Int),(a:Int),((a+1:Nat):Int),f,t)) (by
  unfold kX;simp only [aN (show (a:Int)<(b:Int) by omega),cond_true,aN (show (-1:Int)<0 by omega),aY (show a<1000000000 by omega)])]
 exact h1
theorem WW (f:List Pt) (t:Int×Int) (a:Nat):wZ ⟨f⟩ t (a:Int) (a:Int)=some (-1):=by
 unfold wZ;refine aI ?_;unfold kX;simp only [aL (show¬(a:Int)<(a:Int) by omega),cond_false]
theorem aL5 {f:List Pt} (fok:bN f) {t:Int×Int} (r64:oC t): ∀(d m a b:Nat) (N:List Nd),b-a<=d->d<m->a<=b->b<=f.length->N.length=f.length->
 ∃(r:Int) (N':List Nd),jV m (f,t.1,t.2,0,(a:Int),(b:Int),N)=some (r,N')/\N'.length=f.length/\(∀k:Nat,(N'[k]!).1=(N[k]!).1)/\(∀k:Nat,(k<a\/b<=k)->N'[k]! =N[k]!)/\nU (PI f t) N' a b r:=by
 have f1:=fok.1;intro d
 induction d with
 |zero=>
  intro m a b N hd hm hab hb hN
  have:a=b:=by omega
  subst this;cases m with
  |zero=>omega
  |succ m=>
   refine ⟨-1,N,?_,hN,fun _=>rfl,fun _ _=>rfl,.nil (Nat.le_refl _)⟩
   show gH _ _=_;unfold gH;simp only [show ((t.1,t.2):Int×Int)=t from rfl,WW f t a,aB,aL (show¬(0:Int)<= -1 by omega),cond_false,beq_self_eq_true,cond_true]
 |succ d ih=>
  intro m a b N hd hm hab hb hN;cases m with
  |zero=>omega
  |succ m=>
  by_cases e:a=b
  · subst e
    refine ⟨-1,N,?_,hN,fun _=>rfl,fun _ _=>rfl,.nil (Nat.le_refl _)⟩
    show gH _ _=_;unfold gH;simp only [show ((t.1,t.2):Int×Int)=t from rfl,WW f t a,aB,aL (show¬(0:Int)<= -1 by omega),cond_false,beq_self_eq_true,cond_true]
  obtain ⟨i,t1,t2⟩:=aSn fok r64 (show a<b by omega) hb
  have lo:=t2.lo;have hi:=t2.hi;obtain ⟨l,N1,g1,g2,g3,g4,g5⟩:=ih m a i N (by omega) (by omega) lo (by omega) hN
  have gi:=aE N1 i (by omega)
  obtain ⟨rr,N2,k1,k2,k3,k4,k5⟩:=ih m (i+1) b (N1.set i ((N1[i]!).1,l,(N1[i]!).2.2)) (by omega) (by omega) (by omega) hb (by rw [List.length_set];exact g2)
  have gj:=aE N2 i (by omega)
  have n2i:N2[i]! =((N1[i]!).1,l,(N1[i]!).2.2):=by rw [k4 i (.inl (by omega)),bH,if_pos ⟨rfl,by omega⟩]
  have n3i:(N2.set i ((N2[i]!).1,(N2[i]!).2.1,rr))[i]! =((N1[i]!).1,l,rr):=by rw [bH,if_pos ⟨rfl,by omega⟩,n2i]
  have n3: ∀k,k≠i->(N2.set i ((N2[i]!).1,(N2[i]!).2.1,rr))[k]! =N2[k]!:=fun k hk=>by rw [bH,if_neg (fun w=>hk w.1)]
  have n1: ∀k,k≠i->(N1.set i ((N1[i]!).1,l,(N1[i]!).2.2))[k]! =N1[k]!:=fun k hk=>by rw [bH,if_neg (fun w=>hk w.1)]
  refine ⟨(i:Int),N2.set i ((N2[i]!).1,(N2[i]!).2.1,rr),?_,by rw [List.length_set];exact k2,fun k=>?_,fun k hk=>?_,?_⟩
  · show gH _ _=_
    unfold gH;simp only [show ((t.1,t.2):Int×Int)=t from rfl,t1,aB,aN (show (0:Int)<=(i:Int) by omega),cond_true,g1,gi,lI,aY (show i<1000000000 by omega),k1,gj,List.length_set,k2,hN,beq_self_eq_true]
  · by_cases q:k=i
    · rw [q,n3i,<- g3 i]
    · rw [n3 k q,k3 k,n1 k q,g3 k]
  · rw [n3 k (by omega),k4 k (by omega),n1 k (by omega),g4 k (by omega)]
  · refine .node t2 ?_ ?_
    · rw [n3i]
      refine g5.frame fun k h1 h2=>?_
      rw [n3 k (by omega),k4 k (.inl (by omega)),n1 k (by omega)]
    · rw [n3i]
      refine k5.frame fun k h1 h2=>?_
      rw [n3 k (by omega)]
theorem KR {f:List Pt} (fok:bN f) {t:Int×Int} (r64:oC t): ∃(root:Int) (N:List Nd),qM ⟨f⟩ t=some ⟨root,N⟩/\fL f t N root:=by
 have f1:=fok.1
 let ini:Nat->List Nd:=fun i=>(f.take i).map fun p=>(p.1,0,0)
 have il: ∀i,i<=f.length->(ini i).length=i:=fun i hi=>by show (List.map _ _).length=_;rw [List.length_map,List.length_take];omega
 have key:=cN (body:=pX) (fun i=>((i:Int),f,t.1,t.2,0,0,ini i)) f.length (fun i hi=>by
  have nx:ini (i+1)=ini i++[((f[i]!).1,0,0)]:=by
   show List.map _ _=List.map _ _++_;rw [gA hi,List.map_append];rfl
  unfold pX;simp only [aF,aN (show (i:Int)<(f.length:Int) by omega),cond_true,aE f i hi,aB,aY (show i<1000000000 by omega),nx]
  rw [cI (by rw [il i (by omega),List.length_singleton];omega),aB])
 obtain ⟨r,N,g1,g2,g3,_,g5⟩:=aL5 fok r64 f.length 1000000 0 f.length (ini f.length) (by omega) (by omega) (by omega) (Nat.le_refl _) (il _ (Nat.le_refl _))
 refine ⟨r,N,?_,⟨g2,fun k hk=>?_,g5⟩⟩
 · unfold qM tK
   rw [show aH pX (0,f,t.1,t.2,0,0,[])=_ from key];rw [aI (r:=(⟨r,N⟩:kF)) (by
    unfold pX;have g1':tJ (f,t.1,t.2,0,0,(f.length:Int),ini f.length)=some (r,N):=g1;simp only [aF,aL (show¬(f.length:Int)<(f.length:Int) by omega),cond_false,g1',aB]),aB]
 · rw [g3 k]
   show (((f.take f.length).map fun p=>((p.1,0,0):Nd))[k]!).1=_
   rw [getElem!_pos _ k (by rw [List.length_map,List.length_take];omega),List.getElem_map,List.getElem_take,getElem!_pos f k hk]
def DE (U:List Int) (c:Int) (i:Nat):List Int:=if 0<=c then U.set c.toNat (i:Int) else U
def Y4 (N:List Nd) (U:List Int):Nat->List Int
 |0=>U
 |i+1=>DE (DE (Y4 N U i) (N[i]!).2.1 i) (N[i]!).2.2 i
theorem EQ (U:List Int) (c:Int) (i:Nat):(DE U c i).length=U.length:=by unfold DE;split<;>simp
theorem CU (N:List Nd) (U:List Int): ∀i,(Y4 N U i).length=U.length
 |0=>rfl
 |i+1=>by rw [Y4,EQ,EQ,CU N U i]
theorem Q4 (U:List Int) (c:Int) (i k:Nat) (hk:k<U.length):(DE U c i)[k]! =if c=(k:Int) then (i:Int) else U[k]!:=by
 unfold DE
 by_cases h:0<=c
 · rw [if_pos h,bH]
   by_cases q:c=(k:Int)
   · rw [if_pos ⟨by omega,by omega⟩,if_pos q]
   · rw [if_neg (fun w=>q (by omega)),if_neg q]
 · rw [if_neg h,if_neg (by omega)]
theorem aB4 {α:Type} [Inhabited α] {n i:Nat} (a:α) (h:i<n):(List.replicate n a)[i]! =a:=by
 rw [getElem!_pos _ i (by rw [List.length_replicate];exact h),List.getElem_replicate]
section
variable {f : List Pt} {t : Int × Int} {N : List Nd} {r : Int}
theorem fL.link (h:fL f t N r) {j:Nat} (hj:j<f.length) {c:Int} (hc:(N[j]!).2.1=c\/(N[j]!).2.2=c):c= -1\/(0<=c/\c<N.length):=by
 have ln:=h.len;rcases h.tree.kids j (Nat.zero_le _) hj c hc with e|⟨k,e,_,k2,_⟩
 · exact .inl e
 · exact .inr ⟨by omega,by omega⟩
theorem fL.upIs (h:fL f t N r) {U:List Int} (hU:U.length=N.length): ∀i,i<=N.length-> ∀k,k<N.length->(Y4 N U i)[k]! =if nM N k<i then (nM N k:Int) else U[k]!
 |0,_,k,_=>by rw [if_neg (Nat.not_lt_zero _)];rfl
 |i+1,hi,k,hk=>by
  have ln:=h.len;have ih:=h.upIs hU i (by omega) k hk
  have p:=h.par (k:=k) (by omega)
  rw [Y4,Q4 _ _ _ _ (by rw [EQ,CU];omega),Q4 _ _ _ _ (by rw [CU];omega),ih]
  by_cases hb:Below N k i
  · have e:=p.2.2 i (by omega) hb
    rw [if_pos (show nM N k<i+1 by omega),<- e]
    rcases hb with q|q
    · by_cases w:(N[i]!).2.2=(k:Int)
      · rw [if_pos w]
      · rw [if_neg w,if_pos q]
    · rw [if_pos q]
  · have n1: ¬(N[i]!).2.1=(k:Int):=fun q=>hb (.inl q)
    have n2: ¬(N[i]!).2.2=(k:Int):=fun q=>hb (.inr q)
    rw [if_neg n2,if_neg n1];have ne:nM N k≠i:=fun q=>by
     by_cases hr:(k:Int)=r
     · have:=p.1 hr;omega
     · have:=(p.2.1 hr).2.1
       rw [q] at this;exact hb this
    by_cases q:nM N k<i
    · rw [if_pos q,if_pos (by omega)]
    · rw [if_neg q,if_neg (by omega)]
def m1S (N:List Nd) (r:Int) (i:Nat) (j:Int) (U:List Int):=((i:Int),N,(N.length:Int),(i:Int),(N[i]!).2.1,(N[i]!).2.2,j,(0:Int),r,N,U)
def m3S (N:List Nd) (r:Int) (i:Nat) (U:List Int):=(N,(N.length:Int),(i:Int),(0:Int),r,N,U)
theorem ME {U:List Int} {c:Int} (h0:0<=c) (h:c<U.length): ∃x,aO U c=some x:=⟨_,dZ h0 h⟩
theorem MF {U:List Int} {c:Int} (h0:0<=c) (x:Int):cD U c x=U.set c.toNat x:=by
 obtain ⟨n,rfl⟩:=Int.eq_ofNat_of_zero_le h0;rw [lI,Int.toNat_natCast]
theorem aL6 (h:fL f t N r) (hN:N.length<=1000) {i:Nat} (hi:i<N.length) {U:List Int} (hU:U.length=N.length):aH jY (m1S N r i 0 U)=some (.next (m3S N r (i+1) (DE (DE U (N[i]!).2.1 i) (N[i]!).2.2 i))):=by
 have ln:=h.len;have l1:=h.link (j:=i) (by omega) (.inl rfl)
 have l2:=h.link (j:=i) (by omega) (.inr rfl)
 have s1:jY (m1S N r i 0 U)=some (.next (m1S N r i 1 (DE U (N[i]!).2.1 i))):=by
  unfold jY m1S DE;simp only [aN (show (0:Int)<2 by omega),cond_true,beq_self_eq_true,show aA .i64 (0+1)=1 from zD ⟨by omega,by omega⟩]
  by_cases q:0<=(N[i]!).2.1
  · obtain ⟨x,hx⟩:=ME (U:=U) q (by omega)
    rw [aN q,cond_true,hx,aB,MF q,if_pos q]
  · rw [aL q,cond_false,if_neg q]
 have s2: ∀V:List Int,V.length=N.length->jY (m1S N r i 1 V)=some (.next (m1S N r i 2 (DE V (N[i]!).2.2 i))):=by
  intro V hV;unfold jY m1S DE;simp only [aN (show (1:Int)<2 by omega),cond_true,show ((1:Int)==0)=false from rfl,cond_false,beq_self_eq_true,show aA .i64 (1+1)=2 from zD ⟨by omega,by omega⟩]
  by_cases q:0<=(N[i]!).2.2
  · obtain ⟨x,hx⟩:=ME (U:=V) q (by omega)
    rw [aN q,cond_true,hx,aB,MF q,if_pos q]
  · rw [aL q,cond_false,if_neg q]
 rw [aU s1,aU (s2 _ (by rw [EQ];exact hU))]
 refine aI ?_;unfold jY m1S m3S;simp only [aL (show¬(2:Int)<2 by omega),cond_false,aY (show i<1000000000 by omega)]
theorem Y5 (h:fL f t N r) (hN:N.length<=1000):aH mJ ((N.length:Int),0,0,r,N,List.replicate N.length 0)=some (⟨r,N⟩,bO N N.length):=by
 have ln:=h.len;have k4:=cN (body:=mJ) (fun i=>((N.length:Int),(i:Int),(0:Int),r,N,List.replicate i (-1)++List.replicate (N.length-i) 0)) N.length (fun i hi=>by
  have ll:(List.replicate i (-1:Int)++List.replicate (N.length-i) 0).length=N.length:=by rw [List.length_append,List.length_replicate,List.length_replicate];omega
  have e:(List.replicate i (-1:Int)++List.replicate (N.length-i) 0).set i (-1)=List.replicate (i+1) (-1)++List.replicate (N.length- (i+1)) 0:=by
   rw [show N.length-i=(N.length- (i+1))+1 by omega,List.replicate_succ,List.set_append_right _ _ (by rw [List.length_replicate];exact Nat.le_refl _),List.length_replicate,Nat.sub_self,List.set_cons_zero,List.replicate_succ',List.append_assoc]
   rfl
  unfold mJ;simp only [aN (show (i:Int)<(N.length:Int) by omega),cond_true,aE (List.replicate i (-1:Int)++List.replicate (N.length-i) 0) i (by omega),aB,lI,e,aY (show i<1000000000 by omega)])
 have e0:List.replicate 0 (-1:Int)++List.replicate (N.length-0) 0=List.replicate N.length 0:=rfl;have e1:List.replicate N.length (-1:Int)++List.replicate (N.length-N.length) 0=List.replicate N.length (-1):=by rw [Nat.sub_self,List.replicate_zero,List.append_nil]
 rw [e0,e1] at k4;rw [show aH mJ ((N.length:Int),0,0,r,N,List.replicate N.length 0)=_ from k4];have lU:(List.replicate N.length (-1:Int)).length=N.length:=List.length_replicate ..;have k3:=cN (body:=mI) (fun i=>m3S N r i (Y4 N (List.replicate N.length (-1)) i)) N.length (fun i hi=>by
  have g:=aE N i hi;unfold mI
  conv=>lhs;unfold m3S
  simp only [aN (show (i:Int)<(N.length:Int) by omega),cond_true,g,aB]
  exact aL6 h hN hi (by rw [CU,lU]))
 have up:=h.upIs lU N.length (Nat.le_refl _);have k2:=cN (body:=mH) (fun i=>(N,(N.length:Int),(i:Int),(0:Int),r,N,Y4 N (List.replicate N.length (-1)) N.length,bO N i)) N.length (fun i hi=>by
  have g:=aE N i hi;have gu:=aE (Y4 N (List.replicate N.length (-1)) N.length) i (by rw [CU,lU];exact hi)
  have el:=nN N i;rw [up i hi] at gu;unfold mH;rw [show bO N (i+1)=bO N i++BG N i from rfl];unfold BG
  by_cases q:nM N i<N.length
  · rw [if_pos q] at gu
    simp only [aN (show (i:Int)<(N.length:Int) by omega),cond_true,g,gu,aB,aN (show (0:Int)<=(nM N i:Int) by omega),aE N (nM N i) q,aY (show i<1000000000 by omega),if_pos q]
    rw [cI (by rw [List.length_singleton];omega),aB]
  · rw [if_neg q,aB4 (-1) hi] at gu
    simp only [aN (show (i:Int)<(N.length:Int) by omega),cond_true,g,gu,aB,aL (show¬(0:Int)<= -1 by omega),cond_false,aY (show i<1000000000 by omega),if_neg q,List.append_nil])
 have f2:aH mH (N,(N.length:Int),0,0,r,N,Y4 N (List.replicate N.length (-1)) N.length,[])=some (.done (.done (⟨r,N⟩,bO N N.length))):=by
  rw [show aH mH (N,(N.length:Int),0,0,r,N,Y4 N (List.replicate N.length (-1)) N.length,[])=_ from k2];refine aI ?_;unfold mH;simp only [aL (show¬(N.length:Int)<(N.length:Int) by omega),cond_false]
 have f3:aH mI (m3S N r 0 (List.replicate N.length (-1)))=some (.done (⟨r,N⟩,bO N N.length)):=by
  rw [show aH mI (m3S N r 0 (List.replicate N.length (-1)))=_ from k3];refine aI ?_;unfold mI m3S;simp only [aF,aL (show¬(N.length:Int)<(N.length:Int) by omega),cond_false]
  exact f2
 refine aI ?_;unfold mJ;simp only [aF,aL (show¬(N.length:Int)<(N.length:Int) by omega),cond_false]
 exact f3
def q1S (N:List Nd) (r:Int) (i:Nat) (j:Int) (U:List Int):=((i:Int),N,(N.length:Int),(i:Int),(N[i]!).2.1,(N[i]!).2.2,j,r,N,U)
def q3S (N:List Nd) (r:Int) (i:Nat) (U:List Int):=(N,(N.length:Int),(i:Int),r,N,U)
theorem aL7 (h:fL f t N r) (hN:N.length<=1000) {i:Nat} (hi:i<N.length) {U:List Int} (hU:U.length=N.length):aH kA (q1S N r i 0 U)=some (.next (q3S N r (i+1) (DE (DE U (N[i]!).2.1 i) (N[i]!).2.2 i))):=by
 have ln:=h.len;have l1:=h.link (j:=i) (by omega) (.inl rfl)
 have l2:=h.link (j:=i) (by omega) (.inr rfl)
 have s1:kA (q1S N r i 0 U)=some (.next (q1S N r i 1 (DE U (N[i]!).2.1 i))):=by
  unfold kA q1S DE;simp only [aN (show (0:Int)<2 by omega),cond_true,beq_self_eq_true,show aA .i64 (0+1)=1 from zD ⟨by omega,by omega⟩]
  by_cases q:0<=(N[i]!).2.1
  · obtain ⟨x,hx⟩:=ME (U:=U) q (by omega)
    rw [aN q,cond_true,hx,aB,MF q,if_pos q]
  · rw [aL q,cond_false,if_neg q]
 have s2: ∀V:List Int,V.length=N.length->kA (q1S N r i 1 V)=some (.next (q1S N r i 2 (DE V (N[i]!).2.2 i))):=by
  intro V hV;unfold kA q1S DE;simp only [aN (show (1:Int)<2 by omega),cond_true,show ((1:Int)==0)=false from rfl,cond_false,beq_self_eq_true,show aA .i64 (1+1)=2 from zD ⟨by omega,by omega⟩]
  by_cases q:0<=(N[i]!).2.2
  · obtain ⟨x,hx⟩:=ME (U:=V) q (by omega)
    rw [aN q,cond_true,hx,aB,MF q,if_pos q]
  · rw [aL q,cond_false,if_neg q]
 rw [aU s1,aU (s2 _ (by rw [EQ];exact hU))]
 refine aI ?_;unfold kA q1S q3S;simp only [aL (show¬(2:Int)<2 by omega),cond_false,aY (show i<1000000000 by omega)]
theorem Y6 (h:fL f t N r) (hN:N.length<=1000):oW ⟨r,N⟩=some (bO N N.length):=by
 have ln:=h.len;have lU:(List.replicate N.length (0:Int)).length=N.length:=List.length_replicate ..;have mk:A0 (N.length:Int) (0:Int)=some (List.replicate N.length 0):=by
  unfold A0;rw [if_pos ⟨by omega,by omega⟩,Int.toNat_natCast]
 have k3:=cN (body:=oV) (fun i=>q3S N r i (Y4 N (List.replicate N.length 0) i)) N.length (fun i hi=>by
  have g:=aE N i hi;unfold oV
  conv=>lhs;unfold q3S
  simp only [aN (show (i:Int)<(N.length:Int) by omega),cond_true,g,aB]
  exact aL7 h hN hi (by rw [CU,lU]))
 have up:=h.upIs lU N.length (Nat.le_refl _);have k2:=cN (body:=mK) (fun i=>(N,(N.length:Int),(i:Int),r,N,Y4 N (List.replicate N.length 0) N.length,bO N i)) N.length (fun i hi=>by
  have g:=aE N i hi;have gu:=aE (Y4 N (List.replicate N.length 0) N.length) i (by rw [CU,lU];exact hi)
  have el:=nN N i;have p:=h.par (k:=i) (by omega)
  rw [up i hi] at gu;unfold mK;rw [show bO N (i+1)=bO N i++BG N i from rfl];unfold BG
  by_cases q:(i:Int)=r
  · have e:=p.1 q
    simp only [aN (show (i:Int)<(N.length:Int) by omega),cond_true,g,aB,bR q,cond_false,aY (show i<1000000000 by omega),if_neg (show¬nM N i<N.length by omega),List.append_nil]
  · have e:=(p.2.1 q).1
    rw [if_pos e] at gu;simp only [aN (show (i:Int)<(N.length:Int) by omega),cond_true,g,aB,eH q,gu,aE N (nM N i) e,aY (show i<1000000000 by omega),if_pos e]
    rw [cI (by rw [List.length_singleton];omega),aB])
 have f2:aH mK (N,(N.length:Int),0,r,N,Y4 N (List.replicate N.length 0) N.length,[])=some (.done (bO N N.length)):=by
  rw [show aH mK (N,(N.length:Int),0,r,N,Y4 N (List.replicate N.length 0) N.length,[])=_ from k2];refine aI ?_;unfold mK;simp only [aL (show¬(N.length:Int)<(N.length:Int) by omega),cond_false]
 unfold oW;simp only [aF,beq_self_eq_true,cond_true,mk,aB];rw [show aH oV (N,(N.length:Int),0,r,N,List.replicate N.length 0)=_ from k3];refine aI ?_;unfold oV q3S;simp only [aF,aL (show¬(N.length:Int)<(N.length:Int) by omega),cond_false]
 exact f2
theorem aL8 (h:fL f t N r) (hN:N.length<=1000) {i:Nat} (hi:i<N.length):aH rC ((i:Int),0,r,N,bO N i)=some (.next (((i+1:Nat):Int),r,N,bO N (i+1))):=by
 have ln:=h.len;have p:=h.par (k:=i) (by omega)
 have el:=nN N i;have g:=aE N i hi;have key:=cN (body:=rC) (fun j=>((i:Int),(j:Int),r,N,bO N i++(if nM N i<j then [((N[i]!).1,(N[nM N i]!).1)] else []))) N.length (fun j hj=>by
  have gj:=aE N j hj;unfold rC
  by_cases hb:Below N i j
  · have e:=p.2.2 j hj hb
    rw [if_neg (show¬nM N i<j by omega),if_pos (show nM N i<j+1 by omega),List.append_nil]
    have ap:bJ (bO N i) [((N[i]!).1,(N[j]!).1)]=some (bO N i++[((N[i]!).1,(N[j]!).1)]):=cI (by rw [List.length_singleton];omega)
    by_cases q:(N[j]!).2.1=(i:Int)
    · simp only [aF,aN (show (j:Int)<(N.length:Int) by omega),cond_true,gj,g,aB,gQ q,ap,aY (show j<1000000000 by omega),<- e]
    · have q2:(N[j]!).2.2=(i:Int):=hb.resolve_left q
      simp only [aF,aN (show (j:Int)<(N.length:Int) by omega),cond_true,gj,g,aB,gR q,cond_false,gQ q2,ap,aY (show j<1000000000 by omega),<- e]
  · have ne:nM N i≠j:=fun q=>by
     by_cases hr:(i:Int)=r
     · have:=p.1 hr;omega
     · have:=(p.2.1 hr).2.1
       rw [q] at this;exact hb this
    have n1: ¬(N[j]!).2.1=(i:Int):=fun q=>hb (.inl q)
    have n2: ¬(N[j]!).2.2=(i:Int):=fun q=>hb (.inr q)
    have e:(if nM N i<j+1 then [((N[i]!).1,(N[nM N i]!).1)] else [])=(if nM N i<j then [((N[i]!).1,(N[nM N i]!).1)] else []):=by
     by_cases q:nM N i<j
     · rw [if_pos q,if_pos (by omega)]
     · rw [if_neg q,if_neg (by omega)]
    simp only [aF,aN (show (j:Int)<(N.length:Int) by omega),cond_true,gj,aB,gR n1,gR n2,cond_false,aY (show j<1000000000 by omega),e])
 have e0:(if nM N i<0 then [((N[i]!).1,(N[nM N i]!).1)] else [])=[]:=if_neg (Nat.not_lt_zero _)
 rw [e0,List.append_nil] at key;rw [show aH rC ((i:Int),0,r,N,bO N i)=_ from key];refine aI ?_;unfold rC;simp only [aF,aL (show¬(N.length:Int)<(N.length:Int) by omega),cond_false,aY (show i<1000000000 by omega)]
 rfl
theorem aAT (h:fL f t N r) (hN:N.length<=1000):D2 ⟨r,N⟩=some (bO N N.length):=by
 have k:=cN (body:=vF) (fun i=>((i:Int),r,N,bO N i)) N.length (fun i hi=>by
  unfold vF;simp only [aF,aN (show (i:Int)<(N.length:Int) by omega),cond_true]
  exact aL8 h hN hi)
 unfold D2;rw [show aH vF (0,r,N,[])=_ from k];refine aI ?_;unfold vF;simp only [aF,aL (show¬(N.length:Int)<(N.length:Int) by omega),cond_false]
end
noncomputable def nO (f:List Pt) (es:List (Int×Int)):Int:=if¬(∀x∈es,gM x) then 8 else if¬es.Nodup then 14 else if¬(∀x∈es,kH f x) then 6 else 0
def rP (c:aQ) (f:List Pt) (es:List (Int×Int)) (i:Nat):=
 (es,es,(es.length:Int),(i:Int),c.now.1,c.now.2,c.field.points,c.certs.next_,c.certs.list,c.agenda.slots.uses,c.agenda.slots.used,c.agenda.slots.free,c.agenda.heap,c.agenda.where_,c.due,f,(0:Int),(0:Int),(0:Int))
theorem ES {c:aQ} (ok:bE c) {f:List Pt} (fok:bN f) {es:List (Int×Int)} (hl:es.length<=1000) {r:aQ×Int} (hr:nO f es=0->oX c ⟨f⟩ es=some r):
 jN c ⟨f⟩ es=some (if nO f es=0 then r else (eL,nO f es)):=by
 have bd:=ok.bd;have ab:=ok.agd.bd;have sl:=ok.agd.so.fl;have sn:=ok.agd.so.n2;have su:=ok.agd.so.ul;have el:decide ((es.length:Int)<(es.length:Int))=false:=aL (by omega)
 have hc:hY c=some 0:=by rw [mS ok.fit,if_pos ok]
 have hf:dD ⟨f⟩=some 0:=by rw [fZ];exact congrArg some (eQ.2 fok)
 have tw:xU (aQ.mk (c.now.1,c.now.2) (Field.mk c.field.points) (bL.mk c.certs.next_ c.certs.list) (aP.mk (bC.mk c.agenda.slots.uses c.agenda.slots.used c.agenda.slots.free) c.agenda.heap c.agenda.where_) c.due)=some c:=by
  unfold xU;simp only [bI (show c.field.points.length<=1048576 by omega),bI (show c.certs.list.length<=1048576 by omega),bI (show c.due.length<=1048576 by omega),bI (show c.agenda.heap.length<=1048576 by omega),bI (show c.agenda.where_.length<=1048576 by omega),
   bI (show c.agenda.slots.uses.length<=1048576 by omega),bI (show c.agenda.slots.used.length<=1048576 by omega),bI (show c.agenda.slots.free.length<=1048576 by omega),aB]
 have k3: ∀e2:aQ×Int,aH fC (rP c f es 0)=some (.done e2)->aH fD (rP c f es 0)=some (if∀i,i<es.length->gM es[i]! then e2 else (eL,8)):=by
  intro e2 h2;refine TC (body:=fD) (fun i=>rP c f es i) es.length (fun i=>gM es[i]!) (r:=(eL,8)) (e:=e2) (fun i hi=>?_) ?_
  · have e1:decide ((i:Int)<(es.length:Int))=true:=aN (by omega)
    unfold fD rP gM;simp only [e1,cond_true,aE es i hi,aB,aY (show i<1000000000 by omega)]
    generalize es[i]! =x
    by_cases a1:x.1<0
    · rw [aN a1];exact ⟨fun _=>rfl,fun h=>by omega⟩
    rw [aL a1]
    by_cases a2:x.2<0
    · rw [aN a2];exact ⟨fun _=>rfl,fun h=>by omega⟩
    rw [aL a2]
    by_cases a3:65535<x.1
    · rw [aN a3];exact ⟨fun _=>rfl,fun h=>by omega⟩
    rw [aL a3]
    by_cases a4:65535<x.2
    · rw [aN a4];exact ⟨fun _=>rfl,fun h=>by omega⟩
    rw [aL a4]
    by_cases a5:x.1=x.2
    · rw [gQ a5];exact ⟨fun _=>rfl,fun h=>absurd a5 h.2.2.2.2⟩
    · rw [gR a5];exact ⟨fun h=>absurd ⟨by omega,by omega,by omega,by omega,a5⟩ h,fun _=>rfl⟩
  · unfold fD rP
    simp only [aF,el,cond_false];exact h2
 have k2: ∀e1:aQ×Int,aH fX (rP c f es 0)=some (.done (.done e1))->aH fC (rP c f es 0)=some (.done (if∀i,i<es.length->es[i]!∉es.take i then e1 else (eL,14))):=by
  intro e0 h2
  have:=TC (body:=fC) (fun i=>rP c f es i) es.length (fun i=>es[i]!∉es.take i) (r:= .done (eL,14)) (e:= .done e0) (fun i hi=>by
   have e1:decide ((i:Int)<(es.length:Int))=true:=aN (by omega)
   unfold fC rP;simp only [e1,cond_true,aE es i hi,pM es i (by omega),aB,oD _ _ (show (es.take i).length<=1000000 by rw [List.length_take];omega),aY (show i<1000000000 by omega)]
   by_cases h:es[i]!∈es.take i
   · rw [aN h];exact ⟨fun _=>rfl,fun k=>absurd h k⟩
   · rw [aL h];exact ⟨fun k=>absurd h k,fun _=>rfl⟩) (by
   unfold fC rP;simp only [aF,el,cond_false];exact h2)
  refine this.trans ?_
  by_cases hb: ∀i,i<es.length->es[i]!∉es.take i
  · rw [if_pos hb,if_pos hb]
  · rw [if_neg hb,if_neg hb]
 have step1: ∀i,i<es.length->(¬kH f es[i]!->fX (rP c f es i)=some (.done (.done (.done (eL,6)))))/\(kH f es[i]!->fX (rP c f es i)=some (.next (rP c f es (i+1)))):=by
  intro i hi;have e1:decide ((i:Int)<(es.length:Int))=true:=aN (by omega)
  obtain ⟨p,e,a1,a2⟩:=GH fok (es[i]!).1;obtain ⟨q,g,b1,b2⟩:=GH fok (es[i]!).2;unfold fX rP kH;simp only [e1,cond_true,aE es i hi,aB,a1,b1,aY (show i<1000000000 by omega)]
  by_cases h1:pQ f (es[i]!).1
  · rw [bR (a2.2 h1)]
    by_cases h2:pQ f (es[i]!).2
    · rw [bR (b2.2 h2)]
      exact ⟨fun h=>absurd ⟨h1,h2⟩ h,fun _=>rfl⟩
    · rw [eH (fun h=>h2 (b2.1 h))]
      exact ⟨fun _=>rfl,fun h=>absurd h.2 h2⟩
  · rw [eH (fun h=>h1 (a2.1 h))]
    exact ⟨fun _=>rfl,fun h=>absurd h.1 h1⟩
 have start:jN c ⟨f⟩ es=aH fD (rP c f es 0):=by
  unfold jN;simp only [hc,aB,show ((0:Int) !=0)=false from rfl,cond_false,hf];rfl
 rw [start]
 by_cases h1: ∀x∈es,gM x
 case neg=>
  have er:nO f es=8:=by unfold nO;rw [if_pos h1]
  rw [er,if_neg (by omega)]
  have:=dM (body:=fD) (fun i=>rP c f es i) es.length (fun i=> ¬gM es[i]!) (r:=(eL,8)) (e:=r)
  have k3':=k3;rw [JB (P:=gM)] at h1;obtain ⟨i,h⟩:=Classical.not_forall.1 h1;obtain ⟨hi,hx⟩:=Classical.not_imp.1 h;obtain ⟨m,m1,m2,m3⟩:=IW (c:=fun i=> ¬gM es[i]!) ⟨i,hi,hx⟩
  have go: ∀j,j<es.length->(¬gM es[j]!->fD (rP c f es j)=some (.done (eL,8)))/\(gM es[j]!->fD (rP c f es j)=some (.next (rP c f es (j+1)))):=by
   intro j hj;have e1:decide ((j:Int)<(es.length:Int))=true:=aN (by omega)
   unfold fD rP gM;simp only [e1,cond_true,aE es j hj,aB,aY (show j<1000000000 by omega)]
   generalize es[j]! =x
   by_cases a1:x.1<0
   · rw [aN a1];exact ⟨fun _=>rfl,fun h=>by omega⟩
   rw [aL a1]
   by_cases a2:x.2<0
   · rw [aN a2];exact ⟨fun _=>rfl,fun h=>by omega⟩
   rw [aL a2]
   by_cases a3:65535<x.1
   · rw [aN a3];exact ⟨fun _=>rfl,fun h=>by omega⟩
   rw [aL a3]
   by_cases a4:65535<x.2
   · rw [aN a4];exact ⟨fun _=>rfl,fun h=>by omega⟩
   rw [aL a4]
   by_cases a5:x.1=x.2
   · rw [gQ a5];exact ⟨fun _=>rfl,fun h=>absurd a5 h.2.2.2.2⟩
   · rw [gR a5];exact ⟨fun h=>absurd ⟨by omega,by omega,by omega,by omega,a5⟩ h,fun _=>rfl⟩
  rw [cN (body:=fD) (fun i=>rP c f es i) m fun j hj=>(go j (by omega)).2 (Classical.not_not.1 (m3 j hj))]
  exact aI ((go m m1).1 m2)
 have h1':=(JB (P:=gM)).1 h1
 by_cases h2:es.Nodup
 case neg=>
  have er:nO f es=14:=by unfold nO;rw [if_neg (Classical.not_not.2 h1),if_pos h2]
  rw [er,if_neg (by omega)]
  have h2':=h2;rw [O7] at h2';obtain ⟨i,h⟩:=Classical.not_forall.1 h2';obtain ⟨hi,hx⟩:=Classical.not_imp.1 h;obtain ⟨m,m1,m2,m3⟩:=IW (c:=fun i=> ¬es[i]!∉es.take i) ⟨i,hi,hx⟩
  have go: ∀j,j<es.length->(es[j]!∈es.take j->fC (rP c f es j)=some (.done (.done (eL,14))))/\(es[j]!∉es.take j->fC (rP c f es j)=some (.next (rP c f es (j+1)))):=by
   intro j hj;have e1:decide ((j:Int)<(es.length:Int))=true:=aN (by omega)
   unfold fC rP;simp only [e1,cond_true,aE es j hj,pM es j (by omega),aB,oD _ _ (show (es.take j).length<=1000000 by rw [List.length_take];omega),aY (show j<1000000000 by omega)]
   by_cases h:es[j]!∈es.take j
   · rw [aN h];exact ⟨fun _=>rfl,fun k=>absurd h k⟩
   · rw [aL h];exact ⟨fun k=>absurd k h,fun _=>rfl⟩
  have l2:aH fC (rP c f es 0)=some (.done (eL,14)):=by
   rw [cN (body:=fC) (fun i=>rP c f es i) m fun j hj=>(go j (by omega)).2 (Classical.not_not.1 (m3 j hj))]
   exact aI ((go m m1).1 (Classical.not_not.1 m2))
  rw [k3 _ l2,if_pos h1']
 have h2':=O7.1 h2
 by_cases h3: ∀x∈es,kH f x
 case neg=>
  have er:nO f es=6:=by unfold nO;rw [if_neg (Classical.not_not.2 h1),if_neg (Classical.not_not.2 h2),if_pos h3]
  rw [er,if_neg (by omega)]
  have h3':=h3;rw [JB (P:=kH f)] at h3';obtain ⟨i,h⟩:=Classical.not_forall.1 h3';obtain ⟨hi,hx⟩:=Classical.not_imp.1 h;obtain ⟨m,m1,m2,m3⟩:=IW (c:=fun i=> ¬kH f es[i]!) ⟨i,hi,hx⟩
  have l1:aH fX (rP c f es 0)=some (.done (.done (eL,6))):=by
   rw [cN (body:=fX) (fun i=>rP c f es i) m fun j hj=>(step1 j (by omega)).2 (Classical.not_not.1 (m3 j hj))]
   exact aI ((step1 m m1).1 m2)
  rw [k3 _ (k2 _ l1),if_pos h1',if_pos h2']
 have h3':=(JB (P:=kH f)).1 h3;have er:nO f es=0:=by unfold nO;rw [if_neg (Classical.not_not.2 h1),if_neg (Classical.not_not.2 h2),if_neg (Classical.not_not.2 h3)]
 rw [er,if_pos rfl];have l1:aH fX (rP c f es 0)=some (.done (.done r)):=by
  rw [cN (body:=fX) (fun i=>rP c f es i) es.length fun j hj=>(step1 j hj).2 (h3' j hj)]
  refine aI ?_;unfold fX rP;simp only [el,cond_false,tw,aB,hr er]
 rw [k3 _ (k2 _ l1),if_pos h1',if_pos h2']
theorem TG {f:List Pt} (fok:bN f) {t:Int×Int} (r:bQ t) (r64:oC t): ∃(root:Int) (N:List Nd),mZ ⟨f⟩ t=some (⟨root,N⟩,bO N f.length)/\fL f t N root:=by
 have f1:=fok.1;obtain ⟨root,N,h1,h2⟩:=aAS fok r r64;have ln:=h2.len;have mk:A0 (N.length:Int) (0:Int)=some (List.replicate N.length 0):=by
  unfold A0;rw [if_pos ⟨by omega,by omega⟩,Int.toNat_natCast]
 refine ⟨root,N,?_,h2⟩;unfold mZ;simp only [h1,aB,aF,beq_self_eq_true,cond_true,mk,List.length_replicate];rw [<- ln];exact Y5 h2 (by omega)
theorem Y7:sH=kB:=rfl
theorem aAU (r r':Int) (a b:List Nd) (hl:a.length<=1000000):nB ⟨r,a⟩ ⟨r',b⟩=some (decide (r=r'/\a=b)):=by
 unfold nB;simp only [aF]
 by_cases h0:r=r'
 case neg=>rw [eH h0,cond_true,aL (fun h=>h0 h.1)]
 rw [bR h0,cond_false]
 by_cases h:a.length=b.length
 case neg=>rw [eH (by omega),cond_true,aL (fun q=>h (by rw [q.2]))]
 rw [bR (by omega),cond_false]
 have key:=TC (body:=sK) (fun i=>((i:Int),r,a,r',b)) a.length (fun i=>a[i]! =b[i]!) (r:=false) (e:=true) (fun i hi=>by
  unfold sK;simp only [aF,aN (show (i:Int)<(a.length:Int) by omega),cond_true,aE a i hi,aE b i (by omega),aB,aY (show i<1000000000 by omega)]
  rw [YZ]
  by_cases q:a[i]! =b[i]!
  · rw [aN q];exact ⟨fun w=>absurd q w,fun _=>rfl⟩
  · rw [aL q];exact ⟨fun _=>rfl,fun w=>absurd w q⟩) (by
  unfold sK;simp only [aF,aL (show¬(a.length:Int)<(a.length:Int) by omega),cond_false])
 refine (show _=_ from key).trans ?_
 by_cases q:a=b
 · rw [if_pos (fun i _=>by rw [q]),aN ⟨h0,q⟩]
 · rw [if_neg (fun w=>q (EE h w)),aL (fun w=>q w.2)]
theorem aL9 (c:aQ) (es:List (Int×Int)) (h1:es.length<=1000000) (_:c.certs.list.length<=1000000):
 vJ c es=some (decide (es.length=c.certs.list.length/\ ∀i,i<c.certs.list.length->(c.certs.list[i]!).2∈es)):=by
 unfold vJ eW fQ;simp only [aF]
 by_cases h0:es.length=c.certs.list.length
 case neg=>rw [gR (by omega),cond_false,aL (fun q=>h0 q.1)]
 rw [gQ (by omega),cond_true]
 have key:=nC (body:=bW) (fun i=>(c.certs.list,es,(c.certs.list.length:Int),(i:Int))) c.certs.list.length (fun i=>(c.certs.list[i]!).2∉es) (fun i=>(i:Int)) (e:= -1) (fun i hi=>by
  unfold bW zZ;simp only [aN (show (i:Int)<(c.certs.list.length:Int) by omega),cond_true,aE c.certs.list i hi,aB,oD es _ h1,aY (show i<1000000000 by omega)]
  refine ⟨fun q=>?_,fun q=>?_⟩
  · rw [aL q];rfl
  · rw [aN (Classical.not_not.1 q)];rfl) (by
  unfold bW;simp only [aL (show¬(c.certs.list.length:Int)<(c.certs.list.length:Int) by omega),cond_false])
 by_cases hx: ∀i,i<c.certs.list.length->(c.certs.list[i]!).2∈es
 · rw [show aH bW (c.certs.list,es,(c.certs.list.length:Int),0)=_ from key.2 (fun i hi=>Classical.not_not.2 (hx i hi)),aB,aB,aL (by omega),aN ⟨h0,hx⟩]
   rfl
 · obtain ⟨i,hi⟩:=Classical.not_forall.1 hx
   obtain ⟨hi,hn⟩:=Classical.not_imp.1 hi;obtain ⟨m,m1,m2,m3⟩:=IW (c:=fun i=>(c.certs.list[i]!).2∉es) ⟨i,hi,hn⟩
   rw [show aH bW (c.certs.list,es,(c.certs.list.length:Int),0)=_ from key.1 m m1 m2 m3,aB,aB,aN (by omega),aL (fun w=>hx w.2)]
   rfl
structure fF (k:bD):Prop where
 clk:bE k.clock
 tree:fL k.clock.field.points k.clock.now k.tree.nodes k.tree.root
 cert:(k.clock.certs.list.map fun x=>x.2).Perm (bO k.tree.nodes k.clock.field.points.length)
theorem LV {c:aQ} (ok:bE c) {N:List Nd} {r:Int} (_:fL c.field.points c.now N r):
 ((bO N c.field.points.length).length=c.certs.list.length/\ ∀i,i<c.certs.list.length->(c.certs.list[i]!).2∈bO N c.field.points.length)↔(c.certs.list.map fun x=>x.2).Perm (bO N c.field.points.length):=by
 have cl:(c.certs.list.map fun x=>x.2).length=c.certs.list.length:=List.length_map ..
 constructor
 · rintro ⟨h1,h2⟩
   refine CR (zK ok.crt) (fun x hx=>?_) (by omega)
   obtain ⟨i,hi,rfl⟩:=qC.2 hx;exact h2 i hi
 · intro h
   exact ⟨by rw [<- h.length_eq,cl],fun i hi=>h.mem_iff.1 (qC.1 ⟨i,hi,rfl⟩)⟩
theorem TH {c:aQ} (ok:bE c) {N:List Nd} {r:Int} (tr:fL c.field.points c.now N r):
 (c.certs.list.length=(bO N c.field.points.length).length/\ ∀i,i<(bO N c.field.points.length).length->vQ c.certs.list (bO N c.field.points.length)[i]!/\eO (kJ c.field.points ((bO N c.field.points.length)[i]!).2) (kJ c.field.points ((bO N c.field.points.length)[i]!).1) c.now)↔(c.certs.list.map fun x=>x.2).Perm (bO N c.field.points.length):=by
 have cl:(c.certs.list.map fun x=>x.2).length=c.certs.list.length:=List.length_map ..
 obtain ⟨_,nd,ld⟩:=tr.edges ok.fld;constructor
 · rintro ⟨h1,h2⟩
   refine (CR nd (fun x hx=>?_) (by omega)).symm
   obtain ⟨i,hi,rfl⟩:=aV.1 hx;exact qC.1 (h2 i hi).1
 · intro h
   exact ⟨by rw [<- h.length_eq,cl],fun i hi=>⟨qC.2 (h.mem_iff.2 (aZ hi)),ld _ (aZ hi)⟩⟩
theorem nV {k:bD} (fit:yD k.clock):lF k=some (if fF k then 0 else 8):=by
 unfold lF;rw [mS fit,aB]
 by_cases ok:bE k.clock
 case neg=>rw [if_neg ok,if_neg (fun h=>ok h.clk)];rfl
 rw [if_pos ok,bR rfl,cond_false];have bd:=ok.bd;obtain ⟨r,N,h1,h2⟩:=TG ok.fld ok.nowv ok.now64;have h1:mZ k.clock.field k.clock.now=some (⟨r,N⟩,bO N k.clock.field.points.length):=h1;have same: ∀h:fF k,N=k.tree.nodes/\r=k.tree.root:=fun h=>h2.same ok.fld.2.2 h.tree
 rw [h1,aB]
 by_cases hr:r=k.tree.root
 case neg=>rw [eH hr,cond_true,if_neg (fun h=>hr (same h).2)]
 have ln:=h2.len;rw [bR hr,cond_false,Y7,CQ N k.tree.nodes (by omega),aB]
 by_cases hn:N=k.tree.nodes
 case neg=>rw [aL hn,if_neg (fun h=>hn (same h).1)];rfl
 have el:=nN N k.clock.field.points.length;rw [aN hn,Bool.not_true,cond_false];show (vJ k.clock (bO N k.clock.field.points.length)).bind _=_;rw [aL9 k.clock _ (by omega) (by omega),aB]
 have iff:=LV ok h2
 by_cases hj:(bO N k.clock.field.points.length).length=k.clock.certs.list.length/\ ∀i,i<k.clock.certs.list.length->(k.clock.certs.list[i]!).2∈bO N k.clock.field.points.length
 · rw [aN hj,if_pos (show fF k from ⟨ok,by rw [<- hn,<- hr];exact h2,by rw [<- hn];exact iff.1 hj⟩)];rfl
 · rw [aL hj,if_neg (fun h:fF k=>hj (iff.2 (by rw [hn];exact h.cert)))];rfl
theorem ET {k:bD} (fit:yD k.clock):oZ k=some (if fF k then 0 else 8):=by
 unfold oZ;rw [O4 fit,aB]
 by_cases ok:bE k.clock
 case neg=>rw [if_neg ok,if_neg (fun h=>ok h.clk)];rfl
 rw [if_pos ok,bR rfl,cond_false];have bd:=ok.bd;obtain ⟨r,N,h1,h2⟩:=KR ok.fld (t:=k.clock.now) ok.now64;have h1:qM k.clock.field k.clock.now=some ⟨r,N⟩:=h1;have same: ∀h:fF k,N=k.tree.nodes/\r=k.tree.root:=fun h=>h2.same ok.fld.2.2 h.tree
 have ln:=h2.len;have keta:k.tree=⟨k.tree.root,k.tree.nodes⟩:=rfl;rw [h1,aB,keta,aAU _ _ _ _ (by omega),aB]
 by_cases hn:r=k.tree.root/\N=k.tree.nodes
 case neg=>rw [aL hn,if_neg (fun h:fF k=>hn ⟨(same h).2,(same h).1⟩)];rfl
 have el:=nN N k.clock.field.points.length;obtain ⟨eok,_,_⟩:=h2.edges ok.fld;rw [aN hn,Bool.not_true,cond_false,aAT h2 (by omega),aB,ln,aL0 ok _ eok.kn,aB]
 have iff:=TH ok h2
 by_cases hj:k.clock.certs.list.length=(bO N k.clock.field.points.length).length/\ ∀i,i<(bO N k.clock.field.points.length).length->vQ k.clock.certs.list (bO N k.clock.field.points.length)[i]!/\eO (kJ k.clock.field.points ((bO N k.clock.field.points.length)[i]!).2) (kJ k.clock.field.points ((bO N k.clock.field.points.length)[i]!).1) k.clock.now
 · rw [aN hj,if_pos (show fF k from ⟨ok,by rw [<- hn.1,<- hn.2];exact h2,by rw [<- hn.2];exact iff.1 hj⟩)];rfl
 · rw [aL hj,if_neg (fun h:fF k=>hj (iff.2 (by rw [hn.2];exact h.cert)))];rfl
structure aSp (k:bD):Prop where
 c:aMJ k.clock
 n:k.tree.nodes.length<=1000
theorem TI (k:bD):rJ k=some true\/(rJ k=some false/\aSp k):=by
 unfold rJ EC
 rcases WT k.clock with e|⟨e,sh⟩
 · rw [e];exact .inl rfl
 rw [e,aB,cond_false,aB,aF]
 by_cases h:70<k.tree.nodes.length
 · rw [aN (by omega)];exact .inl rfl
 · rw [aL (by omega)];exact .inr ⟨rfl,sh,by omega⟩
theorem PB {c:aQ} (ok:bE c) {f:List Pt} (fok:bN f) {N:List Nd} {r:Int} (tr:fL f c.now N r):
 ∃R:aQ×Int,jN c ⟨f⟩ (bO N f.length)=some R/\nZ c ⟨f⟩ (bO N f.length)=some R/\(R.2=0/\O6 c f (bO N f.length) R.1\/R=(eL,18)):=by
 have f1:=fok.1;obtain ⟨eok,nd,_⟩:=tr.edges fok;have el:=nN N f.length;obtain ⟨R,r1,r2,r3⟩:=aLY ok fok eok;have ee:nO f (bO N f.length)=0:=by
  unfold nO;rw [if_neg (Classical.not_not.2 eok.cv),if_neg (Classical.not_not.2 nd),if_neg (fun h=>h eok.kn)]
 have rn:=ES ok fok (es:=bO N f.length) (by omega) (fun _=>r1)
 rw [if_pos ee] at rn;exact ⟨R,rn,r2,r3⟩
theorem PC {α:Type} [BEq α] [LawfulBEq α]: ∀{a b:List α},a.Nodup->(∀x∈a,x∈b)->a.length<=b.length
 | [],_,_,_=>Nat.zero_le _
 |x::a,b,hd,h=>by
  rw [List.nodup_cons] at hd;have hx:=h x List.mem_cons_self
  have:=PC (a:=a) (b:=b.erase x) hd.2 (fun y hy=>by
   rw [List.mem_erase_of_ne (fun e=>hd.1 (by rw [<- e];exact hy))]
   exact h y (List.mem_cons_of_mem _ hy))
  rw [List.length_erase_of_mem hx] at this
  have:=List.length_pos_of_mem hx
  rw [List.length_cons];omega
theorem EU {α:Type} [BEq α] [LawfulBEq α] {a b:List α} (ha:a.Nodup) (hb:b.Nodup) (h1: ∀x∈a,x∈b) (h2: ∀x∈b,x∈a):a.Perm b:=CR ha h1 (PC hb h2)
theorem Y8 {c:aQ} (ok:bE c) {es:List (Int×Int)} (eok:JA c.field.points es) (pm:(c.certs.list.map fun x=>x.2).Perm es):oX c c.field es=some (c,0):=by
 have bd:=ok.bd;have el:=eok.len;have f1:=ok.fld.1;have k1:=cN (body:=dK) (fun i=>kP c c.field.points es i c) c.certs.list.length (fun i hi=>by
  have hin:(c.certs.list[i]!).2∈es:=pm.mem_iff.1 (qC.1 ⟨i,hi,rfl⟩);unfold dK kP;simp only [aN (show (i:Int)<(c.certs.list.length:Int) by omega),cond_true,aE c.certs.list i hi,aB,oD _ _ eok.len,aN hin,Bool.not_true,cond_false,aY (show i<1000000000 by omega)])
 refine (show oX c c.field es=_ from k1).trans (aI ?_);unfold dK kP;simp only [aL (show¬(c.certs.list.length:Int)<(c.certs.list.length:Int) by omega),cond_false,CQ c.field.points c.field.points (by omega),aB,Bool.not_true,decide_true]
 have k2:=cN (body:=dX) (fun i=>eP es i c) es.length (fun i hi=>by
  have hin:vQ c.certs.list es[i]!:=qC.2 (pm.mem_iff.2 (aZ hi));unfold dX eP;simp only [aN (show (i:Int)<(es.length:Int) by omega),cond_true,aE es i hi,aB,F0s,O1 c.certs.list es[i]! (by omega),aN hin,aY (show i<1000000000 by omega)])
 refine (show _=_ from k2).trans (aI ?_);unfold dX eP;simp only [aL (show¬(es.length:Int)<(es.length:Int) by omega),cond_false]
structure EV (R:bD) (F:List Pt) (t:Int×Int):Prop where
 ok:fF R
 fld:R.clock.field.points=F
 now:R.clock.now=t
theorem EV.nums {R:bD} {F:List Pt} {t:Int×Int} (h:EV R F t):yD R.clock:=h.ok.clk.fit
theorem EV.same {R S:bD} {F:List Pt} {t:Int×Int} (h:EV R F t) (k:EV S F t):R.tree=S.tree:=by
 have a:=h.ok.tree;rw [h.fld,h.now] at a;have b:=k.ok.tree;rw [k.fld,k.now] at b;obtain ⟨e1,e2⟩:=a.same (by rw [<- h.fld];exact h.ok.clk.fld.2.2) b
 obtain ⟨_,⟨r,N⟩⟩:=R;obtain ⟨_,⟨r',N'⟩⟩:=S;simp only at e1 e2;subst e1 e2;rfl
abbrev noH:bD:=⟨eL,⟨0,[]⟩⟩
theorem PD {k:bD} (ok:fF k) {F:List Pt} (fok':bN F): ∃R:bD×Int,
 ((rF ⟨F⟩ k.clock.now).bind fun a2=>(oW a2.1).bind fun l3=>(jN k.clock ⟨F⟩ l3).bind fun a4=>
  bif a4.2 !=0 then some (bD.mk (aQ.mk (0,0) (Field.mk []) (bL.mk 0 []) (aP.mk (bC.mk [] [] []) [] []) []) (kF.mk 0 []),a4.2) else some (bD.mk a4.1 a2.1,0))=some R/\
 (R=(noH,18)\/R.2=0/\EV R.1 F k.clock.now)/\(F=k.clock.field.points->R=(k,0)):=by
 have f1:=fok'.1;obtain ⟨r,N,h1,h2⟩:=aAS fok' ok.clk.nowv ok.clk.now64;have ln:=h2.len;obtain ⟨S,r1,_,r3⟩:=PB ok.clk fok' h2;rw [<- ln] at r1;have ee:=Y6 h2 (by omega)
 obtain ⟨eok,nd,_⟩:=h2.edges fok';refine ⟨if S.2=0 then (⟨S.1,⟨r,N⟩⟩,0) else (noH,S.2),?_,?_,fun hF=>?_⟩
 · rw [h1,aB,ee,aB,r1,aB]
   by_cases c:S.2=0
   · rw [if_pos c,bR c];rfl
   · rw [if_neg c,eH c];rfl
 · rcases r3 with ⟨q0,qq⟩|he
   · rw [if_pos q0]
     refine .inr ⟨rfl,⟨qq.ok,?_,?_⟩,qq.fld,qq.now⟩
     · show fL S.1.field.points S.1.now N r
       rw [qq.fld,qq.now];exact h2
     · show (S.1.certs.list.map fun x=>x.2).Perm (bO N S.1.field.points.length)
       rw [qq.fld];exact EU (zK qq.ok.crt) nd (fun x hx=>by obtain ⟨y,hy,rfl⟩:=List.mem_map.1 hx;exact qq.sub y hy) (fun x hx=>qC.1 (qq.has x hx))
   · rw [he,if_neg (by decide)];exact .inl rfl
 · subst hF
   obtain ⟨e1,e2⟩:=h2.same fok'.2.2 ok.tree;obtain ⟨c,⟨r',N'⟩⟩:=k;simp only at e1 e2;subst e1 e2;have rs:=Y8 ok.clk eok ok.cert;have rn:=ES ok.clk fok' (es:=bO N c.field.points.length) (by have:=nN N c.field.points.length;have h2:c.field.points.length<=64:=fok'.1;omega) (fun _=>rs)
   rw [if_pos (show nO c.field.points (bO N c.field.points.length)=0 by
    unfold nO;rw [if_neg (Classical.not_not.2 eok.cv),if_neg (Classical.not_not.2 nd),if_neg (fun h=>h eok.kn)]),<- ln] at rn
   have:S=(c,0):=Option.some.inj (r1.symm.trans rn)
   rw [this,if_pos rfl]
theorem aEr {k:bD} (ok:fF k) (p:Pt):(∃e:Int,e≠0/\iV k.clock.field p=some (⟨[]⟩,e)/\rI k p=some (noH,e))\/
 ∃m,WV k.clock.field.points p m/\ ¬pQ k.clock.field.points p.1/\gE p/\k.clock.field.points.length<64/\iV k.clock.field p=some (⟨HE k.clock.field.points m p⟩,0)/\
  ∃R:bD×Int,rI k p=some R/\(R=(noH,18)\/R.2=0/\EV R.1 (HE k.clock.field.points m p) k.clock.now):=by
 have c1:=nV ok.clk.fit;rw [if_pos ok] at c1;have fok:=ok.clk.fld;rcases PA fok p with ⟨e,e0,t1,_⟩|⟨m,hm,hp,po,hlt,t1,_⟩
 · have t1:iV k.clock.field p=some (⟨[]⟩,e):=t1
   refine .inl ⟨e,e0,t1,?_⟩;unfold rI gZ yX;simp only [c1,aB,t1,show ((0:Int) !=0)=false from rfl,cond_false,eH e0,cond_true]
 · have t1:iV k.clock.field p=some (⟨HE k.clock.field.points m p⟩,0):=t1
   obtain ⟨R,s1,s2,_⟩:=PD ok (aL1 fok po hm hlt);refine .inr ⟨m,hm,hp,po,hlt,t1,R,?_,s2⟩;unfold rI gZ yX;simp only [c1,aB,t1,show ((0:Int) !=0)=false from rfl,cond_false];rw [s1];rfl
theorem aB5 {k:bD} (ok:fF k) (id:Int):(¬pQ k.clock.field.points id/\jA k.clock.field id=some (⟨[]⟩,6)/\oY k id=some (noH,6))\/
 ∃q,q<k.clock.field.points.length/\(k.clock.field.points[q]!).1=id/\jA k.clock.field id=some (⟨k.clock.field.points.eraseIdx q⟩,0)/\
  ∃R:bD×Int,oY k id=some R/\(R=(noH,18)\/R.2=0/\EV R.1 (k.clock.field.points.eraseIdx q) k.clock.now):=by
 have c1:=nV ok.clk.fit;rw [if_pos ok] at c1;have fok:=ok.clk.fld
 by_cases hid:pQ k.clock.field.points id
 case neg=>
  obtain ⟨t1,_⟩:=TF fok hid;have t1:jA k.clock.field id=some (⟨[]⟩,6):=t1;refine .inl ⟨hid,t1,?_⟩;unfold oY gN wS;rw [c1,aB,bR rfl,cond_false,t1];rfl
 obtain ⟨q,hq,rfl⟩:=hid;obtain ⟨t1,_⟩:=Y1 fok hq;have t1:jA k.clock.field (k.clock.field.points[q]!).1=some (⟨k.clock.field.points.eraseIdx q⟩,0):=t1;obtain ⟨R,s1,s2,_⟩:=PD ok (aEo fok q);refine .inr ⟨q,hq,rfl,t1,R,?_,s2⟩;unfold oY gN wS;simp only [c1,aB,t1,show ((0:Int) !=0)=false from rfl,cond_false];rw [s1];rfl
theorem WX {k:bD} (ok:fF k) (p:Pt):(∃e:Int,e≠0/\eU k.clock.field p=some (⟨[]⟩,e)/\lH k p=some (noH,e))\/
 ∃q,q<k.clock.field.points.length/\(k.clock.field.points[q]!).1=p.1/\gE p/\eU k.clock.field p=some (⟨k.clock.field.points.set q p⟩,0)/\
  ∃R:bD×Int,lH k p=some R/\(R=(noH,18)\/R.2=0/\EV R.1 (k.clock.field.points.set q p) k.clock.now)/\(k.clock.field.points.set q p=k.clock.field.points->R=(k,0)):=by
 have c1:=nV ok.clk.fit;rw [if_pos ok] at c1;have fok:=ok.clk.fld;rcases JD fok p with ⟨e,e0,t1,_⟩|⟨q,hq,he,po,t1,_⟩
 · have t1:eU k.clock.field p=some (⟨[]⟩,e):=t1
   refine .inl ⟨e,e0,t1,?_⟩;unfold lH fS sO;simp only [c1,aB,t1,show ((0:Int) !=0)=false from rfl,cond_false,eH e0,cond_true]
 · have t1:eU k.clock.field p=some (⟨k.clock.field.points.set q p⟩,0):=t1
   obtain ⟨R,s1,s2,s3⟩:=PD ok (aSk fok po hq he);refine .inr ⟨q,hq,he,po,t1,R,?_,s2,s3⟩;unfold lH fS sO;simp only [c1,aB,t1,show ((0:Int) !=0)=false from rfl,cond_false];rw [s1];rfl
theorem Y9: ∀{a b:List Pt},fY a->fY b->(∀p,p∈a↔p∈b)->a=b:=by
 intro a b ha hb h;have lt: ∀{l:List Pt},fY l-> ∀i j,i<j->j<l.length->(l[i]!).1<(l[j]!).1:=fun hl i j h1 h2=>hO hl h1 h2
 have ix: ∀{l:List Pt},fY l-> ∀i j,i<l.length->j<l.length->(l[i]!).1=(l[j]!).1->i=j:=fun hl i j h1 h2 e=>by
  rcases Nat.lt_trichotomy i j with c|c|c
  · have:=lt hl i j c h2;omega
  · exact c
  · have:=lt hl j i c h1;omega
 have sub: ∀{a b:List Pt},fY a->fY b->(∀p,p∈a->p∈b)-> ∃g:Nat->Nat,∀i,i<a.length->g i<b.length/\b[g i]! =a[i]!/\i<=g i:=by
  intro a b ha hb h;refine ⟨fun i=>if hi:i<a.length then (aV.1 (h _ (aZ hi))).choose else 0,fun i=>?_⟩
  induction i with
  |zero=>intro hi;simp only [dif_pos hi];have:=(aV.1 (h _ (aZ hi))).choose_spec;exact ⟨this.1,this.2,Nat.zero_le _⟩
  |succ i ih=>
   intro hi;have p:=ih (by omega)
   simp only [dif_pos hi];have q:=(aV.1 (h _ (aZ hi))).choose_spec;refine ⟨q.1,q.2,?_⟩;simp only [dif_pos (show i<a.length by omega)] at p
   have l1:=lt ha i (i+1) (by omega) hi
   rw [<- p.2.1,<- q.2] at l1;rcases Nat.lt_or_ge (aV.1 (h _ (aZ (show i<a.length by omega)))).choose (aV.1 (h _ (aZ hi))).choose with c|c
   · omega
   · rcases Nat.lt_or_eq_of_le c with c|c
     · have:=lt hb _ _ c p.1;omega
     · rw [c] at l1;omega
 obtain ⟨g,hg⟩:=sub ha hb fun p=>(h p).1
 obtain ⟨g',hg'⟩:=sub hb ha fun p=>(h p).2
 have e:a.length=b.length:=by
  rcases Nat.lt_trichotomy a.length b.length with c|c|c
  · have:=hg' (b.length-1) (by omega);omega
  · exact c
  · have:=hg (a.length-1) (by omega);omega
 refine List.ext_getElem? fun i=>?_
 by_cases hi:i<a.length
 · have q:=hg i hi
   have q':=hg' i (by omega)
   have:g i=i:=by
    rcases Nat.lt_or_ge i (g i) with c|c
    · have l1:=lt hb i (g i) c q.1
      have l2:(a[i]!).1<=(a[g' i]!).1:=by
       rcases Nat.lt_or_eq_of_le q'.2.2 with d|d
       · exact Int.le_of_lt (lt ha i (g' i) d q'.1)
       · rw [<- d];exact Int.le_refl _
      rw [q.2.1,<- q'.2.1] at l1;omega
    · omega
   rw [this] at q;rw [List.getElem?_eq_getElem hi,List.getElem?_eq_getElem (show i<b.length by omega)]
   have w:=q.2.1;rw [getElem!_pos b i (by omega),getElem!_pos a i hi] at w
   rw [w]
 · rw [List.getElem?_eq_none (by omega),List.getElem?_eq_none (by omega)]
theorem EV.check {R:bD} {F:List Pt} {t:Int×Int} (h:EV R F t):oZ R=some 0:=by
 rw [ET h.ok.clk.fit,if_pos h.ok]
theorem EV.ext {R S:bD} {F G:List Pt} {t:Int×Int} (h:EV R F t) (k:EV S G t) (hm: ∀x,x∈F↔x∈G):F=G:=by
 have a:=h.ok.clk.fld.2.2;have b:=k.ok.clk.fld.2.2;rw [h.fld] at a;rw [k.fld] at b;exact Y9 a b hm
structure SOA {α:Type} (P:α->α->Prop) (S:α->Prop):Prop where
 irr: ∀a,S a-> ¬P a a
 tr: ∀a b c,S a->S b->S c->P a b->P b c->P a c
 ntr: ∀a b c,S a->S b->S c-> ¬P a b-> ¬P b c-> ¬P a c
theorem SOA.asym {α:Type} {P:α->α->Prop} {S:α->Prop} (o:SOA P S) {a b:α} (ha:S a) (hb:S b) (h:P a b): ¬P b a:=fun k=>o.irr a ha (o.tr a b a ha hb ha h k)
section
variable {α : Type} [Inhabited α] {P : α -> α -> Prop} {S : α -> Prop}
def JE (l:List α) (i j:Nat):List α:=(l.set i l[j]!).set j l[i]!
theorem KS (l:List α) (i j:Nat):(JE l i j).length=l.length:=by
 unfold JE;rw [List.length_set,List.length_set]
theorem CV (l:List α) {i j:Nat} (hi:i<l.length) (hj:j<l.length) (k:Nat):(JE l i j)[k]! =if k=j then l[i]! else if k=i then l[j]! else l[k]!:=by
 unfold JE;rw [bH,List.length_set,bH]
 by_cases c:k=j
 · rw [if_pos ⟨c,hj⟩,if_pos c]
 · rw [if_neg (fun h=>c h.1),if_neg c]
   by_cases d:k=i
   · rw [if_pos ⟨d,hi⟩,if_pos d]
   · rw [if_neg (fun h=>d h.1),if_neg d]
theorem HF {l:List α} {i j:Nat} (hi:i<l.length) (hj:j<l.length):(JE l i j).Perm l:=by
 unfold JE;rw [getElem!_pos l j hj,getElem!_pos l i hi];exact List.set_set_perm hi hj
noncomputable def PQ (P:α->α->Prop):Nat->List α->List α
 |0,l=>l
 |j+1,l=>if P l[j+1]! l[j]! then PQ P j (JE l (j+1) j) else l
theorem Q5 (P:α->α->Prop): ∀(j:Nat) (l:List α),j<l.length->(PQ P j l).Perm l
 |0,l,_=>List.Perm.refl _
 |j+1,l,h=>by
  unfold PQ;split
  · exact (Q5 P j _ (by rw [KS];omega)).trans (HF h (by omega))
  · exact List.Perm.refl _
def ZA (P:α->α->Prop) (l:List α) (n:Nat):Prop:= ∀a b,a<b->b<n-> ¬P l[b]! l[a]!
structure aSq (P:α->α->Prop) (l:List α) (i j:Nat):Prop where
 lt:j<=i
 le:i<l.length
 el: ∀a b,a<b->b<=i->a≠j->b≠j-> ¬P l[b]! l[a]!
 up: ∀b,j<b->b<=i-> ¬P l[b]! l[j]!
theorem aEs (o:SOA P S): ∀(j i:Nat) (l:List α),(∀x∈l,S x)->aSq P l i j->ZA P (PQ P j l) (i+1):=by
 intro j
 induction j with
 |zero=>
  intro i l _ v a b h1 h2
  by_cases c:a=0
  · subst c;exact v.up b h1 (by omega)
  · exact v.el a b h1 (by omega) c (by omega)
 |succ j ih=>
  intro i l hS v;have hi:=v.le;have hj:=v.lt;have sm: ∀k,k<l.length->S l[k]!:=fun k hk=>hS _ (aZ hk)
  have h1:j+1<l.length:=by omega
  have h0:j<l.length:=by omega
  unfold PQ;split
  · rename_i hc
    refine ih i _ (fun x hx=>hS x ((HF h1 h0).mem_iff.1 hx)) ⟨by omega,by rw [KS];exact hi,fun a b a1 a2 a3 a4=>?_,fun b b1 b2=>?_⟩
    · rw [CV l h1 h0,CV l h1 h0,if_neg a3,if_neg a4]
      by_cases c:a=j+1
      · subst c
        rw [if_pos rfl,if_neg (by omega)]
        exact v.el j b (by omega) a2 (by omega) (by omega)
      · rw [if_neg c]
        by_cases d:b=j+1
        · subst d
          rw [if_pos rfl];exact v.el a j (by omega) (by omega) (by omega) (by omega)
        · rw [if_neg d]
          exact v.el a b a1 a2 c d
    · rw [CV l h1 h0,CV l h1 h0,if_pos rfl,if_neg (by omega)]
      by_cases c:b=j+1
      · subst c
        rw [if_pos rfl];exact o.asym (sm _ h1) (sm _ h0) hc
      · rw [if_neg c]
        exact v.up b (by omega) b2
  · rename_i hc
    intro a b a1 a2
    by_cases c:a=j+1
    · subst c;exact v.up b a1 (by omega)
    · by_cases d:b=j+1
      · subst d
        by_cases e:a=j
        · subst e;exact hc
        · exact o.ntr _ _ _ (sm _ h1) (sm _ h0) (sm _ (by omega)) hc (v.el a j (by omega) (by omega) c (by omega))
      · exact v.el a b a1 (by omega) c d
noncomputable def EW (P:α->α->Prop) (l:List α):Nat->List α
 |0=>l
 |i+1=>PQ P i (EW P l i)
theorem yF (P:α->α->Prop) (l:List α): ∀i,i<=l.length->(EW P l i).Perm l
 |0,_=>List.Perm.refl _
 |i+1,h=>by
  have p:=yF P l i (by omega)
  exact (Q5 P i _ (by rw [p.length_eq];omega)).trans p
theorem PE (o:SOA P S) {l:List α} (hS: ∀x∈l,S x): ∀i,i<=l.length->ZA P (EW P l i) i
 |0,_=>fun a b _ h=>by omega
 |i+1,h=>by
  have p:=yF P l i (by omega)
  have s:=PE o hS i (by omega)
  refine aEs o i i _ (fun x hx=>hS x (p.mem_iff.1 hx)) ⟨Nat.le_refl _,by rw [p.length_eq];omega,fun a b a1 a2 a3 a4=>s a b a1 (by omega),fun b b1 b2=>by omega⟩
end
structure SO (P:Int->Int->Prop) (S:Int->Prop):Prop where
 irr: ∀a,S a-> ¬P a a
 tr: ∀a b c,S a->S b->S c->P a b->P b c->P a c
 tot: ∀a b,S a->S b->a≠b->P a b\/P b a
abbrev par (j:Nat):Nat:=(j-1) / 2
def Hp (P:Int->Int->Prop) (l:List Int):Prop:= ∀j,0<j->j<l.length-> ¬P l[j]! l[par j]!
section
variable {P : Int -> Int -> Prop} {S : Int -> Prop}
theorem SO.asym (o:SO P S) {a b:Int} (ha:S a) (hb:S b) (h:P a b): ¬P b a:=fun k=>o.irr a ha (o.tr a b a ha hb ha h k)
theorem SO.ntr (o:SO P S) {a b c:Int} (ha:S a) (hb:S b) (hc:S c) (h1: ¬P a b) (h2: ¬P b c): ¬P a c:=fun h=>by
 by_cases e:b=c
 · exact h1 (e▸h)
 · rcases o.tot b c hb hc e with k|k
   · exact h2 k
   · exact h1 (o.tr a c b ha hc hb h k)
theorem SO.up (o:SO P S) {a b c:Int} (ha:S a) (hb:S b) (hc:S c) (h1:P b c) (h2: ¬P a c): ¬P a b:=fun h=>h2 (o.tr a b c ha hb hc h h1)
end
theorem tk {l:List Int} {m:Nat} {x:Int} (h:l.length=m):(l++[x]).take m=l:=by rw [<- h,List.take_left]
section
variable {k : GA} {f : List Pt} {m n0 : Nat} {x : Int}
end
section
variable {k : GA} {P : Pt} {f : List Pt} {m : Nat}
end
theorem PF {f:List Pt} (hs:fY f) {q:Pt} (h:q∈f):kJ f q.1=q:=by
 obtain ⟨i,hi,rfl⟩:=aV.1 h;exact zJ hs hi rfl
theorem aAV {f:List Pt} (hs:fY f) {x:Int} (h:pQ f x):kJ f x∈f/\(kJ f x).1=x:=by
 obtain ⟨i,hi,rfl⟩:=h;rw [PF hs (aZ hi)];exact ⟨aZ hi,rfl⟩
abbrev aEt (f:List Pt) (t:Int×Int) (a b:Int):Prop:=eO (kJ f a) (kJ f b) t
theorem Q6 {f:List Pt} (hs:fY f) {t:Int×Int} {l:List Int} (hp: ∀x∈l,pQ f x) (nd:l.Nodup):(∀e∈EO l,eO (kJ f e.2) (kJ f e.1) t)↔Hp (aEt f t) l:=by
 constructor
 · intro h j h1 h2 c
   have hm:(l[j]!,l[par j]!)∈EO l:=by
    refine aV.2 ⟨j-1,by rw [HD];omega,?_⟩
    rw [LJ l (show j-1<l.length-1 by omega),show j-1+1=j by omega]
   exact zN c (h _ hm)
 · intro h e he
   obtain ⟨i,hi,rfl⟩:=aV.1 he;rw [HD] at hi;rw [LJ l hi]
   have:=h (i+1) (by omega) (by omega)
   have pe:par (i+1)=i / 2:=by simp only [par];omega
   rw [pe] at this;refine zL t ?_ this;rw [(aAV hs (hp _ (aZ (by omega)))).2,(aAV hs (hp _ (aZ (by omega)))).2]
   exact fun e=>hH.1 nd (i / 2) (i+1) (by omega) (by omega) e.symm
structure aW1 (R:GA) (F:List Pt) (t:Int×Int):Prop where
 ok:yE R
 fld:R.clock.field.points=F
 now:R.clock.now=t
theorem yE.len {k:GA} (h:yE k):k.heap.length=k.clock.field.points.length:=by rw [<- h.perm.length_eq];exact List.length_map ..
theorem yE.bd {k:GA} (h:yE k):k.heap.length<=64:=by have:=h.len;have:=h.clk.fld.1;omega
theorem yE.has {k:GA} (h:yE k): ∀x∈k.heap,pQ k.clock.field.points x:=fun _ hx=>aAP.1 (h.perm.mem_iff.2 hx)
theorem yE.nd {k:GA} (h:yE k):k.heap.Nodup:=h.perm.nodup_iff.1 (KQ h.clk.fld.2.2)
theorem yE.hp {k:GA} (h:yE k):Hp (aEt k.clock.field.points k.clock.now) k.heap:=(Q6 h.clk.fld.2.2 h.has h.nd).1 h.lead
theorem O6.heap {c:aQ} {f:List Pt} (fok:bN f) {l:List Int} (pm:(GI f).Perm l) {R:GA} (e:R.heap=l) (q:O6 c f (EO l) R.clock) (h:Hp (aEt f c.now) l):aW1 R f c.now:=by
 have nd:=pm.nodup_iff.1 (KQ fok.2.2);refine ⟨⟨q.ok,by rw [q.fld,e];exact pm,?_,?_⟩,q.fld,q.now⟩
 · rw [e]
   exact EU (zK q.ok.crt) (WU nd) (fun x hx=>by obtain ⟨y,hy,rfl⟩:=List.mem_map.1 hx;exact q.sub y hy) (fun x hx=>qC.1 (q.has x hx))
 · rw [e,q.fld,q.now]
   exact (Q6 fok.2.2 (fun x hx=>aAP.1 (pm.mem_iff.2 hx)) nd).2 h
section
variable {f : List Pt} {t : Int × Int}
abbrev wF (t:Int×Int) (p q:Pt):Prop:=eO p q t
theorem aEu {f:List Pt} (hs:fY f) (t:Int×Int):SOA (wF t) (fun p=>p∈f) where
 irr:=fun a _ h=>zN h h
 tr:=fun _ _ _ _ _ _ h k=>EP h k
 ntr:=fun a b c ha hb hc h1 h2 h=>by
  by_cases e:b.1=c.1
  · have:b=c:=by rw [<- PF hs hb,<- PF hs hc,e]
    exact h1 (this▸h)
  · rcases Classical.em (eO b c t) with k|k
    · exact h2 k
    · exact h1 (EP h (zL t e k))
theorem aEv (hs:fY f) {l:List Pt} (p:l.Perm f) {i j:Nat} (hi:i<l.length) (hj:j<l.length) (hne:i≠j):(l[i]!).1≠(l[j]!).1:=by
 have nd:(GI l).Nodup:=(p.map fun x:Pt=>x.1).nodup_iff.2 (KQ hs)
 intro e;have b: ∀k,k<l.length->(GI l)[k]! =(l[k]!).1:=fun k hk=>by
  unfold GI;rw [getElem!_pos _ k (by rw [List.length_map];exact hk),List.getElem_map,getElem!_pos l k hk]
 have ll:(GI l).length=l.length:=List.length_map ..;rcases Nat.lt_trichotomy i j with c|c|c
 · exact hH.1 nd i j c (by omega) (by rw [b i hi,b j hj];exact e)
 · exact hne c
 · exact hH.1 nd j i c (by omega) (by rw [b i hi,b j hj];exact e.symm)
def i1S (n i j:Nat) (l:List Pt) (t:Int×Int):=((0:Int),(n:Int),(i:Int),(j:Int),l,t.1,t.2)
def i2S (n i:Nat) (l:List Pt) (t:Int×Int):=((0:Int),(n:Int),(i:Int),l,t.1,t.2)
theorem aEw (fok:bN f) (r:bQ t) (r64:oC t) {n:Nat} (hn:n<=64): ∀(j i:Nat) (l:List Pt),l.Perm f->l.length=n->j<=i->i<n->
 aH bA (i1S n i j l t)=some (.next (i2S n (i+1) (PQ (wF t) j l) t)):=by
 intro j
 induction j with
 |zero=>
  intro i l p hl hj hi;refine aI ?_;unfold bA i1S i2S;simp only [aL (show¬(0:Int)<((0:Nat):Int) by omega),cond_false,aY (show i<1000000000 by omega),PQ]
 |succ j ih=>
  intro i l p hl hj hi;have h1:j+1<l.length:=by omega
  have h0:j<l.length:=by omega
  have m1:=p.mem_iff.1 (aZ h1);have m0:=p.mem_iff.1 (aZ h0);have ne:=aEv fok.2.2 p h1 h0 (by omega)
  have ah:lC l[j+1]! l[j]! (t.1,t.2)=some (decide (eO l[j+1]! l[j]! t),0):=by
   rcases DB (fok.2.1 _ m1) (fok.2.1 _ m0) r64 r with h|⟨h,_⟩
   · rw [show ((t.1,t.2):Int×Int)=t from rfl,h,if_neg ne]
   · exact absurd h ne
  have wp:aA .i64 (((j+1:Nat):Int) -1)=(j:Int):=by rw [zD ⟨by omega,by omega⟩];omega
  have g1:=aE l (j+1) h1;have g0:=aE l j h0;have gs:aO (cD l ((j+1:Nat):Int) l[j]!) (j:Int)=some ((cD l ((j+1:Nat):Int) l[j]!)[j]!):=aE _ j (by rw [AZ];exact h0)
  have nb:((l[j+1]!).1==(l[j]!).1)=false:=by simpa using ne
  by_cases c:eO l[j+1]! l[j]! t
  · have s1:bA (i1S n i (j+1) l t)=some (.next (i1S n i j (JE l (j+1) j) t)):=by
     unfold bA i1S;simp only [aN (show (0:Int)<((j+1:Nat):Int) by omega),cond_true,wp,g1,g0,aB,nb,cond_false,ah,aN c,beq_self_eq_true,gs]
     simp only [lI];rfl
    rw [aU s1];have pm:=(HF h1 h0).trans p;rw [ih i (JE l (j+1) j) pm (by rw [KS];exact hl) (by omega) hi]
    conv=>rhs;unfold PQ
    rw [if_pos (show wF t l[j+1]! l[j]! from c)]
  · refine aI ?_
    unfold bA i1S;simp only [aN (show (0:Int)<((j+1:Nat):Int) by omega),cond_true,wp,g1,g0,aB,nb,cond_false,ah,aL c,beq_self_eq_true,aY (show i<1000000000 by omega)]
    unfold PQ;rw [if_neg (show¬wF t l[j+1]! l[j]! from c)];rfl
theorem aB6 (fok:bN f) (r:bQ t) (r64:oC t) {c0:Int×Int×List Pt×Int×Int} (hc:c0.2.2.1.length=f.length): ∀(d i:Nat),f.length-i<=d->i<=f.length->
 aH (bB c0) (i2S f.length i (EW (wF t) f i) t)=some (EW (wF t) f f.length,t.1,t.2):=by
 have f1:=fok.1;intro d
 induction d with
 |zero=>
  intro i hd hi
  have:i=f.length:=by omega
  subst this;have le:=(yF (wF t) f f.length (Nat.le_refl _)).length_eq;refine aI ?_;unfold bB i2S;simp only [aL (show¬(f.length:Int)<(f.length:Int) by omega),cond_false,le,hc,beq_self_eq_true,cond_true]
 |succ d ih=>
  intro i hd hi
  by_cases e:i=f.length
  · exact ih i (by omega) hi
  · have pm:=yF (wF t) f i hi
    have s1:bB c0 (i2S f.length i (EW (wF t) f i) t)=some (.next (i2S f.length (i+1) (EW (wF t) f (i+1)) t)):=by
     have:=aEw fok r r64 f1 i i _ pm pm.length_eq (Nat.le_refl _) (show i<f.length by omega)
     unfold bB;show (bif decide ((i:Int)<(f.length:Int)) then _ else _)=_
     rw [aN (show (i:Int)<(f.length:Int) by omega),cond_true]
     exact this
    rw [aU s1];exact ih (i+1) (by omega) (by omega)
theorem aEx (s:ByteArray) {n:Nat} (h:n<=12) (hs:12<s.size): ∃r,wE s (n:Int)=some r:=by
 show∃r,(s[n]?.map fun b=>(b.toNat:Int))=some r
 rw [getElem?_pos s n (show n<s.size by omega)]
 exact ⟨_,rfl⟩
set_option maxRecDepth 100000 in
theorem aU8 {n:Nat} (h:n<=12): ∃r,uP (n:Int)=some r:=by
 unfold uP vY;rw [aL (show¬4294967296<=(n:Int) by omega),cond_false,aL (show¬65536<=(n:Int) by omega),cond_false,aL (show¬256<=(n:Int) by omega),cond_false]
 have w8:aA .u8 (n:Int)=(n:Int):=by
  have:n=0\/n=1\/n=2\/n=3\/n=4\/n=5\/n=6\/n=7\/n=8\/n=9\/n=10\/n=11\/n=12:=by omega
  rcases this with rfl|rfl|rfl|rfl|rfl|rfl|rfl|rfl|rfl|rfl|rfl|rfl|rfl<;>rfl
 have key: ∀s:ByteArray,12<s.size-> ∃r,((wE s (aA .u8 (n:Int))).bind fun n7=>some (aA .i64 (0+aA .i64 n7))).bind (fun n0=>some n0)=some r:=fun s h12=>by
  obtain ⟨r,e⟩:=aEx s h h12;rw [w8,e];exact ⟨_,rfl⟩
 exact key _ (by decide)
theorem LW (fok:bN f) (r:bQ t) (r64:oC t) (h12:f.length<=12): ∃L:List Pt,wU ⟨f⟩ t=some (L,0)/\L.Perm f/\ZA (wF t) L f.length:=by
 have f1:=fok.1;obtain ⟨m,hm⟩:=aU8 h12;have pm:=yF (wF t) f f.length (Nat.le_refl _);refine ⟨EW (wF t) f f.length,?_,pm,PE (aEu fok.2.2 t) (fun x hx=>hx) _ (Nat.le_refl _)⟩
 have ins:bS (0,(f.length:Int),f,t.1,t.2)=some (EW (wF t) f f.length,t.1,t.2):=by
  unfold bS
  by_cases h0:f.length=0
  · obtain rfl:f=[]:=List.length_eq_zero_iff.1 h0
    refine aI ?_;unfold bB;rfl
  · refine Eq.trans ?_ (aB6 fok r r64 (c0:=(0,(f.length:Int),f,t.1,t.2)) rfl f.length 1 (by omega) (by omega))
    have:EW (wF t) f 1=f:=rfl
    rw [this];rfl
 have pdq:bZ (0,(f.length:Int),m,f,t.1,t.2)=some (EW (wF t) f f.length,t.1,t.2):=by
  show cY (bM 999999) _=_;unfold cY;refine aI ?_;unfold eV
  simp only [show aA .i64 ((f.length:Int) -0)=(f.length:Int) by rw [zD ⟨by omega,by omega⟩];omega,aN (show (f.length:Int)<=12 by omega),cond_true,ins,aB,pm.length_eq,beq_self_eq_true]
 have hc:dD ⟨f⟩=some 0:=by rw [fZ];exact congrArg some (eQ.2 fok)
 have ck:fA t=some 0:=by rw [eJ r64,if_pos r]
 have wl:aA .u64 (Int.ofNat f.length)=(f.length:Int):=by
  show (Int.ofNat (Nat.mod f.length 18446744073709551616))=_;rw [show Nat.mod f.length 18446744073709551616=f.length from Nat.mod_eq_of_lt (by omega)];rfl
 unfold wU eC;simp only [hc,aB,show ((0:Int) !=0)=false from rfl,cond_false,ck,bI (show f.length<=1048576 by omega),wl,hm]
 rw [show bZ (0,Int.ofNat f.length,m,f,t)=_ from pdq];simp only [aB,pm.length_eq,beq_self_eq_true,cond_true]
theorem DD (fok:bN f) (r:bQ t) (r64:oC t) (h12:f.length<=12):(f=[]/\nJ ⟨f⟩ t=some (0,42))\/
 ∃p,p∈f/\(∀q∈f,¬eO q p t)/\nJ ⟨f⟩ t=some (p.1,0):=by
 obtain ⟨L,h1,h2,h3⟩:=LW fok r r64 h12;have le:=h2.length_eq;unfold nJ;rw [h1,aB,show ((0:Int) !=0)=false from rfl,cond_false]
 by_cases h0:f.length=0
 · obtain rfl:f=[]:=List.length_eq_zero_iff.1 h0
   obtain rfl:L=[]:=List.length_eq_zero_iff.1 le;exact .inl ⟨rfl,rfl⟩
 · have hl:0<L.length:=by omega
   right;refine ⟨L[0]!,h2.mem_iff.1 (aZ hl),fun q hq=>?_,?_⟩
   · obtain ⟨i,hi,rfl⟩:=aV.1 (h2.mem_iff.2 hq)
     by_cases c:i=0
     · subst c;exact fun h=>zN h h
     · exact h3 0 i (by omega) (by omega)
   · rw [show ((Int.ofNat L.length==0):Bool)=false by simp only [aF,beq_eq_false_iff_ne];omega,cond_false,aE L 0 hl|>(fun h=>(h:aO L 0=some L[0]!)),aB]
end
def Due (c:aQ) (to:Int×Int):Prop:=0<c.agenda.heap.length/\oH (Ev.at c.agenda.heap[0]!) to<=0
theorem PG {c:aQ} (ok:bE c) {to:Int×Int} (rt:bQ to) (r64:oC to) (le: ¬oH to c.now<0):vO c to=some (decide (Due c to),0):=by
 unfold vO;rw [mS ok.fit,if_pos ok,aB,eJ r64,if_pos rt,aB,bR (by decide),cond_false,OE r64 ok.now64,if_pos ⟨rt,ok.nowv⟩,aB,aL le,cond_false]
 unfold G8;rw [kO _ ok.fit.ag,if_pos ok.agd,aB,bR rfl,cond_false]
 by_cases h:0<c.agenda.heap.length
 · have ev:=ok.agd.ev 0 h
   have g:=aE c.agenda.heap 0 h;rw [show ((0:Nat):Int)=0 from rfl] at g;rw [gR (by rw [aF];omega),cond_false,g,aB,aB,bR rfl,cond_false,OE ev.2.1 r64,if_pos ⟨ev.1,rt⟩,aB]
   congr 2
   by_cases h2:oH (Ev.at c.agenda.heap[0]!) to<=0
   · rw [aN (show Due c to from ⟨h,h2⟩),aN h2]
   · rw [aL (fun k:Due c to=>h2 k.2),aL h2]
 · rw [gQ (by rw [aF];omega),cond_true,aB,aL (fun k:Due c to=>h k.1)]
   rfl
theorem WY {c:bL} (ok:fK c) {i:Nat} (hi:i<c.list.length):VY c (c.list[i]!).1=some (i:Int):=by
 have hl:=ok.len;have k:=nC (body:=zC) (fun j=>((c.list[i]!).1,(j:Int),c.next_,c.list)) c.list.length (fun j=>(c.list[j]!).1=(c.list[i]!).1) (fun j=>(j:Int)) (e:= -1) (fun j hj=>by
  unfold zC;simp only [aF,aN (show (j:Int)<(c.list.length:Int) by omega),cond_true,aE c.list j hj,aB,aY (show j<1000000000 by omega)]
  refine ⟨fun h=>?_,fun h=>?_⟩
  · rw [gQ h];rfl
  · rw [gR h];rfl) (by
  unfold zC;simp only [aF,aL (show¬(c.list.length:Int)<(c.list.length:Int) by omega),cond_false])
 exact k.1 i hi rfl fun j hj e=>by have:=ok.up j i hj hi;omega
abbrev atT (c:aQ) (t:Int×Int):aQ:=⟨t,c.field,c.certs,c.agenda,c.due⟩
theorem aEy {c:aQ} (ok:bE c) {to:Int×Int} (rt:bQ to) (r64:oC to) (le: ¬oH to c.now<0) (due:Due c to):
 ∃(x:Int×Int) (c1:aQ),tU c to=some (c1,c.agenda.heap[0]!,x,0)/\IV c=some (c1,c.agenda.heap[0]!,x)/\bE c1/\c1.field=c.field/\kH c.field.points x/\sX c1=sX c+1/\c1.now=Ev.at c.agenda.heap[0]!:=by
 obtain ⟨i,c',hi,num,r1,r2,ok1,hf,hc,_⟩:=Y0 ok due.1;have g:=aE c.agenda.heap 0 due.1;rw [show ((0:Nat):Int)=0 from rfl] at g;have hcl:c'.certs.list.length=c.certs.list.length-1:=by
  rw [hc];exact List.length_eraseIdx_of_lt hi
 have hcn:c'.certs.next_=c.certs.next_:=by rw [hc];rfl
 refine ⟨(c.certs.list[i]!).2,atT c' (Ev.at c.agenda.heap[0]!),?_,?_,ok1,hf,ok.known i hi,?_,rfl⟩
 · unfold tU
   rw [PG ok rt r64 le,aB,gQ rfl,cond_true,aN due,Bool.not_true,cond_false,bR rfl,cond_false,g,aB,r1,aB,bR rfl,cond_false]
 · unfold IV
   rw [g,aB,show (c.agenda.heap[0]!).2.2.1=(c.certs.list[i]!).1 from num.symm,WY ok.crt hi,aB,aE c.certs.list i hi,aB,num,r2,aB]
 · unfold sX
   show c'.certs.next_- (c'.certs.list.length:Int)=_;rw [hcl,hcn];omega
theorem aEz {c:aQ} (ok:bE c) {to:Int×Int} (rt:bQ to) (r64:oC to) (le: ¬oH to c.now<0) (due: ¬Due c to):tU c to=some (eL,(0,0,0,0,0),(0,0),6):=by
 unfold tU;rw [PG ok rt r64 le,aB,gQ rfl,cond_true,aL due];rfl
theorem aMa {c:aQ} (ok:bE c) {to:Int×Int} (rt:bQ to) (r64:oC to) (le: ¬oH to c.now<0) (due: ¬Due c to):CE c to=some (atT c to,0):=by
 unfold CE;rw [PG ok rt r64 le,aB,gQ rfl,cond_true,aL due,cond_false,bR rfl,cond_false,lT ok,aB]
theorem TJ {c:aQ} (ok:bE c): -200<=sX c/\sX c<=1000000:=by
 have h1:=ok.crt.len;have h2:=ok.crt.n0;have h3:=ok.crt.n1;unfold sX;omega
theorem aB8 {c:aQ} (ok:bE c) {to:Int×Int} (rt:bQ to) (due: ¬Due c to) {y:vP} (hy:y∈c.certs.list) (is:(bK c.field.points y.2 c.now).2=true):
 to.1*(bK c.field.points y.2 c.now).1.2<(bK c.field.points y.2 c.now).1.1*to.2:=by
 obtain ⟨d,hd,_,ev⟩:=ok.fol.has _ hy is;obtain ⟨v,hv,he⟩:=aV.1 ev;have tl:=KO ok.agd v hv;have h0:0<c.agenda.heap.length:=by omega
 have e0:=(ok.agd.ev 0 h0).1.1;have ev':=(ok.agd.ev v hv).1.1;rw [he] at tl ev';have n1: ¬oH (bK c.field.points y.2 c.now).1 (Ev.at c.agenda.heap[0]!)<0:=fun q=>tl (.inl q)
 rw [wV] at n1;have n2: ¬oH (Ev.at c.agenda.heap[0]!) to<=0:=fun q=>due ⟨h0,q⟩
 have n3:to.1*(Ev.at c.agenda.heap[0]!).2<(Ev.at c.agenda.heap[0]!).1*to.2:=by
  unfold oH at n2;rcases eS ((Ev.at c.agenda.heap[0]!).1*to.2) (to.1*(Ev.at c.agenda.heap[0]!).2) with ⟨a,b⟩|⟨a,b⟩|⟨a,b⟩<;>omega
 exact AF rt.1 e0 ev' n3 (Int.not_lt.1 n1)
theorem aEA {c:aQ} (ok:bE c) {to:Int×Int} (rt:bQ to) (r64:oC to) (le: ¬oH to c.now<0) (due: ¬Due c to):bE (atT c to):=by
 have pt:=fun (x:Int×Int) (hb:kH c.field.points x)=>And.intro (iF ok.fld hb.2).1 (iF ok.fld hb.1).1
 refine ⟨rt,r64,ok.fld,ok.crt,ok.agd,ok.w200,ok.hd,ok.known,?_⟩;refine aX.time (t:=c.now) (fun y hy=>?_) ok.fol
 obtain ⟨j,hj,rfl⟩:=aV.1 hy;have hb:=ok.known j hj;refine O8 (pt _ hb).1 (pt _ hb).2 ok.nowv rt (by rw [wV] at le;exact Int.not_lt.1 le) (fun is=>?_)
 exact Int.le_of_lt (aB8 ok rt due hy is)
structure aU9 (c:aQ) (l:List Int):Prop where
 ok:bE c
 pm:(GI c.field.points).Perm l
 ct:(c.certs.list.map fun x=>x.2).Perm (EO l)
theorem aU9.bd {c:aQ} {l:List Int} (h:aU9 c l):l.length<=64:=by
 have:=h.ok.bd
 have:l.length=c.field.points.length:=by rw [<- h.pm.length_eq];exact List.length_map ..
 omega
theorem aMb {h l:Pt} {t t':Int×Int} (hh:gE h) (hl:gE l) (r:bQ t) (r':bQ t') (le:t.1*t'.2<=t'.1*t.2) (nf:(nT h l t).2=true->t'.1*(nT h l t).1.2<(nT h l t).1.1*t'.2): ¬eO l h t':=by
 unfold nT at nf
 by_cases h1:eO l h t
 · rw [if_pos h1] at nf
   have:=nf rfl
   dsimp only at this;omega
 · rw [if_neg h1] at nf
   by_cases h2:h.2.2<l.2.2
   · rw [if_pos h2] at nf
     obtain ⟨_,m1,m2,m3⟩:=KE hh hl (show h.2.2≠l.2.2 by omega)
     have up:=nf rfl;dsimp only at up;intro h3;have g:0<=OF l h t':=by rcases h3 with k|k<;>omega
     rw [JC] at g;generalize met h l=m at*;have d:=m1.1;have hB:0<l.2.2-h.2.2:=by omega
     generalize l.2.2-h.2.2=B at*;generalize hA:h.2.1-l.2.1=A at*;have g2:A*t'.2<=B*t'.1:=by
      have:(l.2.1-h.2.1)*t'.2= -(A*t'.2):=by rw [<- Int.neg_mul];congr 1;omega
      omega
     have g3:m.1*t'.2*B<=t'.1*m.2*B:=by
      have e1:m.1*t'.2*B=A*t'.2*m.2:=by rw [Int.mul_right_comm,m3,Int.mul_right_comm]
      have e2:t'.1*m.2*B=B*t'.1*m.2:=by rw [Int.mul_right_comm,Int.mul_comm t'.1 B]
      rw [e1,e2];exact Int.mul_le_mul_of_nonneg_right g2 (by omega)
     have g4:m.1*t'.2<=t'.1*m.2:=Int.le_of_mul_le_mul_right g3 hB;omega
   · exact LH r.1 r'.1 le h2 h1
theorem ZB {c:aQ} (ok:bE c) {N:List Nd} {r:Int} (tr:fL c.field.points c.now N r) (ct: ∀e∈bO N c.field.points.length,vQ c.certs.list e) {to:Int×Int} (rt:bQ to) (le: ¬oH to c.now<0) (due: ¬Due c to):fL c.field.points to N r:=by
 have ln:=tr.len;refine ⟨tr.len,tr.ids,tr.tree.other (MD ok.fld.2.2 to) (Nat.le_refl _) fun k j _ hk _ hj hb=>?_⟩
 have hbl:Below N j k:=hb;have hp:=tr.par hj;have hr:(j:Int)≠r:=fun q=>by
  have e:=hp.1 q
  have:=hp.2.2 k (by omega) hbl
  omega
 obtain ⟨p1,p2,p3,_⟩:=hp.2.1 hr;have ek:=hp.2.2 k (by omega) hbl
 have mem:((c.field.points[j]!).1,(c.field.points[k]!).1)∈bO N c.field.points.length:=CT.2 ⟨j,hj,p1,by rw [<- ek,tr.ids j hj,tr.ids k hk]⟩
 obtain ⟨w,w1,w2⟩:=ct _ mem;have hk':=ok.fld.2.1 _ (aZ hk);have hj':=ok.fld.2.1 _ (aZ hj);have wn:bK c.field.points (c.certs.list[w]!).2 c.now=nT c.field.points[k]! c.field.points[j]! c.now:=by
  unfold bK;rw [w2,zJ ok.fld.2.2 hk rfl,zJ ok.fld.2.2 hj rfl]
 have nl: ¬eO c.field.points[j]! c.field.points[k]! to:=by
  refine aMb hk' hj' ok.nowv rt (by rw [wV] at le;omega) fun is=>?_
  rw [<- wn] at is;obtain ⟨d,hd,_,ev⟩:=ok.fol.has _ (aZ w1) is;obtain ⟨v,hv,he⟩:=aV.1 ev;have tl:=KO ok.agd v hv;have h0:0<c.agenda.heap.length:=by omega
  have e0:=(ok.agd.ev 0 h0).1.1;have ev':=(ok.agd.ev v hv).1.1;rw [he] at tl ev';rw [<- wn];have n1: ¬oH (bK c.field.points (c.certs.list[w]!).2 c.now).1 (Ev.at c.agenda.heap[0]!)<0:=fun q=>tl (.inl q)
  rw [wV] at n1;have n2: ¬oH (Ev.at c.agenda.heap[0]!) to<=0:=fun q=>due ⟨h0,q⟩
  have n3:to.1*(Ev.at c.agenda.heap[0]!).2<(Ev.at c.agenda.heap[0]!).1*to.2:=by
   unfold oH at n2;rcases eS ((Ev.at c.agenda.heap[0]!).1*to.2) (to.1*(Ev.at c.agenda.heap[0]!).2) with ⟨a,b⟩|⟨a,b⟩|⟨a,b⟩<;>omega
  exact AF rt.1 e0 ev' n3 (Int.not_lt.1 n1)
 exact zL to (fun e=>p3 (by rw [<- ek];exact qQ ok.fld.2.2 hk hj e.symm)) nl
structure aW2 (c:aQ) (f:List Pt) (k:bD):Prop where
 ren:O6 c f (bO k.tree.nodes f.length) k.clock
 tree:fL f c.now k.tree.nodes k.tree.root
theorem FV {c:aQ} (ok:bE c) {f:List Pt} (fok:bN f):
 ∃R:bD×Int,mP c ⟨f⟩=some R/\pZ c ⟨f⟩=some R/\(R.2=0/\aW2 c f R.1\/R=(⟨eL,⟨0,[]⟩⟩,18)):=by
 have f1:=fok.1;obtain ⟨r,N,h1,h2⟩:=TG fok ok.nowv ok.now64;obtain ⟨r',N',g1,g2⟩:=KR fok (t:=c.now) ok.now64;obtain ⟨e1,e2⟩:=g2.same fok.2.2 h2;subst e1 e2;have ln:=h2.len;obtain ⟨R,r1,r2,r3⟩:=PB ok fok h2;have eo:=aAT h2 (by omega)
 rw [ln] at eo;rcases r3 with ⟨q0,qq⟩|he
 · refine ⟨(⟨R.1,⟨r',N'⟩⟩,0),?_,?_,.inl ⟨rfl,qq,h2⟩⟩
   · unfold mP
     simp only [h1,aB,r1,q0,show ((0:Int) !=0)=false from rfl,cond_false]
   · unfold pZ
     simp only [g1,aB,eo,r2,q0,show ((0:Int) !=0)=false from rfl,cond_false]
 · refine ⟨(⟨eL,⟨0,[]⟩⟩,18),?_,?_,.inr rfl⟩
   · unfold mP
     simp only [h1,aB,r1,he,show ((18:Int) !=0)=true from rfl,cond_true]
   · unfold pZ
     simp only [g1,aB,eo,r2,he,show ((18:Int) !=0)=true from rfl,cond_true]
def hP (c:aQ) (r:Int) (N:List Nd) (to:Int×Int) (out:List (Int×Int)):=
 (c.now.1,c.now.2,c.field.points,c.certs.next_,c.certs.list,c.agenda.slots.uses,c.agenda.slots.used,c.agenda.slots.free,c.agenda.heap,c.agenda.where_,c.due,r,N,to.1,to.2,(0:Int),(0:Int),(0:Int),(0:Int),out)
theorem ZC {to:Int×Int} (rt:bQ to) (r64:oC to): ∀(d:Nat) (c:aQ) (r:Int) (N:List Nd) (out:List (Int×Int)),1000000-sX c<(d:Int)->fF ⟨c,⟨r,N⟩⟩-> ¬oH to c.now<0->(out.length:Int)<=sX c+200->
 ∃R:bD×List (Int×Int)×Int,aH iW (hP c r N to out)=some R/\(R.2.2=18\/R.2.2=0/\EV R.1 c.field.points to/\ ¬Due R.1.clock to):=by
 intro d
 induction d with
 |zero=>intro c r N out hd ok;have:=(TJ (show bE c from ok.clk)).2;omega
 |succ d ih=>
  intro c r N out hd hok le ho;have ok:bE c:=hok.clk;have tr:fL c.field.points c.now N r:=hok.tree;have bd:=ok.bd;have rb:=TJ ok;have ct: ∀e∈bO N c.field.points.length,vQ c.certs.list e:=fun e he=>qC.2 (hok.cert.mem_iff.2 he)
  have ceta:(aQ.mk (c.now.1,c.now.2) (Field.mk c.field.points) (bL.mk c.certs.next_ c.certs.list) (aP.mk (bC.mk c.agenda.slots.uses c.agenda.slots.used c.agenda.slots.free) c.agenda.heap c.agenda.where_) c.due)=c:=rfl;have teta:((to.1,to.2):Int×Int)=to:=rfl
  by_cases due:Due c to
  · obtain ⟨x,c1,e1,_,ok1,hf,_,hr,hn⟩:=aEy ok rt r64 le due
    obtain ⟨R,s1,_,s3⟩:=FV ok1 ok1.fld;have s1:mP c1 c1.field=some R:=s1;have ol:bJ out [x]=some (out++[x]):=cI (by rw [List.length_singleton];omega)
    rcases s3 with ⟨q0,qs⟩|he
    · have st1:iW (hP c r N to out)=some (.next (hP R.1.clock R.1.tree.root R.1.tree.nodes to (out++[x]))):=by
       unfold iW hP;simp only [ceta,teta,e1,aB,s1,q0,show ((0:Int) !=0)=false from rfl,cond_false,ol]
      have rr:=qs.ren.room;have hk:fF ⟨R.1.clock,⟨R.1.tree.root,R.1.tree.nodes⟩⟩:=by
       obtain ⟨_,nd,_⟩:=qs.tree.edges ok1.fld;refine ⟨qs.ren.ok,?_,?_⟩
       · show fL R.1.clock.field.points R.1.clock.now R.1.tree.nodes R.1.tree.root
         rw [qs.ren.fld,qs.ren.now];exact qs.tree
       · show (R.1.clock.certs.list.map fun x=>x.2).Perm (bO R.1.tree.nodes R.1.clock.field.points.length)
         rw [qs.ren.fld];exact EU (zK qs.ren.ok.crt) nd (fun x hx=>by obtain ⟨y,hy,rfl⟩:=List.mem_map.1 hx;exact qs.ren.sub y hy) (fun x hx=>qC.1 (qs.ren.has x hx))
      rw [aU st1];obtain ⟨S,t1,t2⟩:=ih R.1.clock R.1.tree.root R.1.tree.nodes (out++[x]) (by omega) hk (fun h=>by
       have h2:=due.2;rw [qs.ren.now,hn,wV] at h
       have: ¬0<oH (Ev.at c.agenda.heap[0]!) to:=by omega
       unfold oH at this;rcases eS ((Ev.at c.agenda.heap[0]!).1*to.2) (to.1*(Ev.at c.agenda.heap[0]!).2) with ⟨a,b⟩|⟨a,b⟩|⟨a,b⟩<;>omega) (by rw [List.length_append,List.length_singleton];omega)
      rw [qs.ren.fld,hf] at t2;exact ⟨S,t1,t2⟩
    · refine ⟨(⟨eL,⟨0,[]⟩⟩,[],18),aI ?_,.inl rfl⟩
      unfold iW hP;simp only [ceta,teta,e1,aB,s1,he,show ((0:Int) !=0)=false from rfl,show ((18:Int) !=0)=true from rfl,cond_false,cond_true]
  · obtain ⟨r2,N2,h1,h2⟩:=TG ok.fld rt r64
    have ts:=ZB ok tr ct rt le due;obtain ⟨e1,e2⟩:=h2.same ok.fld.2.2 ts;subst e1 e2;have h1:mZ c.field to=some (⟨r2,N2⟩,bO N2 c.field.points.length):=h1;refine ⟨(⟨atT c to,⟨r2,N2⟩⟩,out,0),aI ?_,.inr ⟨rfl,⟨⟨aEA ok rt r64 le due,ts,hok.cert⟩,rfl,rfl⟩,due⟩⟩;unfold iW hP
    simp only [ceta,teta,aEz ok rt r64 le due,aB,show ((6:Int) !=0)=true from rfl,cond_true,aMa ok rt r64 le due,h1]
theorem HG {k:bD} (ok:fF k) {to:Int×Int} (rt:bQ to) (r64:oC to) (le: ¬oH to k.clock.now<0):
 ∃R:bD×List (Int×Int)×Int,sP k to=some R/\(R.2.2=18\/R.2.2=0/\EV R.1 k.clock.field.points to/\ ¬Due R.1.clock to):=by
 have c1:=nV ok.clk.fit;rw [if_pos ok] at c1;have rb:=TJ ok.clk;obtain ⟨R,r1,r2⟩:=ZC rt r64 (1000001-sX k.clock).toNat k.clock k.tree.root k.tree.nodes [] (by omega) ok le (by simp;omega)
 refine ⟨R,?_,r2⟩;unfold sP;rw [c1,aB,bR rfl,cond_false,eJ r64,if_pos rt,aB,bR rfl,cond_false,OE r64 ok.clk.now64,if_pos ⟨rt,ok.clk.nowv⟩,aB,aL le];exact r1
theorem JF {k:bD} (ok:fF k):(k.clock.field.points=[]/\lQ k=some (0,42))\/
 ∃i,i<k.clock.field.points.length/\(∀j,j<k.clock.field.points.length->j≠i->PI k.clock.field.points k.clock.now i j)/\lQ k=some ((k.clock.field.points[i]!).1,0):=by
 have c1:=nV ok.clk.fit;rw [if_pos ok] at c1;have tr:=ok.tree;have tt:=tr.tree;have ln:=tr.len;unfold lQ;rw [c1,aB,bR rfl,cond_false];generalize hr:k.tree.root=rt at tt ⊢;cases tt with
 |nil h0=>
  refine .inl ⟨List.length_eq_zero_iff.1 (by omega),?_⟩
  rw [aN (by decide),cond_true]
 | @node _ _ i tp _ _=>
  have hi:=tp.hi;refine .inr ⟨i,hi,fun j hj hne=>tp.top j (Nat.zero_le _) hj hne,?_⟩
  rw [aL (by omega),cond_false,aE k.tree.nodes i (by omega),aB,tr.ids i hi]
theorem EX {k:bD} (ok:fF k) (h12:k.clock.field.points.length<=12): ∃a:Int×Int,lQ k=some a/\nJ k.clock.field k.clock.now=some a:=by
 have fok:=ok.clk.fld;rcases JF ok with ⟨h0,l⟩|⟨i,hi,ht,l⟩
 · rcases DD fok ok.clk.nowv ok.clk.now64 h12 with ⟨_,m⟩|⟨p,hp,_,_⟩
   · exact ⟨_,l,m⟩
   · rw [h0] at hp;cases hp
 · rcases DD fok ok.clk.nowv ok.clk.now64 h12 with ⟨h0,_⟩|⟨p,hp,hm,m⟩
   · rw [h0] at hi;cases hi
   · obtain ⟨j,hj,rfl⟩:=aV.1 hp
     have:j=i:=by
      rcases Classical.em (j=i) with e|e
      · exact e
      · exact absurd (ht j hj e) (hm _ (aZ hi))
     subst this;exact ⟨_,l,m⟩
theorem aB9 {f:List Pt} {t:Int×Int} {N:List Nd} {r:Int} (tr:fL f t N r):(bO N f.length).length=f.length-1:=by
 have ln:=tr.len;have key: ∀k,k<=f.length->(bO N k).length=if 0<=r/\r<(k:Int) then k-1 else k:=by
  intro k
  induction k with
  |zero=>intro _;rw [if_neg (by omega)];rfl
  |succ k ih=>
   intro hk;have e:=ih (by omega)
   have pr:=tr.par (show k<f.length by omega)
   have es:(bO N (k+1)).length=(bO N k).length+(BG N k).length:=by
    show (bO N k++BG N k).length=_;rw [List.length_append]
   rw [es,e];unfold BG
   by_cases c:(k:Int)=r
   · rw [if_neg (show¬nM N k<N.length by rw [pr.1 c];omega),if_neg (by omega),if_pos (by omega)];rfl
   · rw [if_pos (pr.2.1 c).1,List.length_singleton]
     by_cases d:0<=r/\r<(k:Int)
     · rw [if_pos d,if_pos (by omega)];omega
     · rw [if_neg d,if_neg (by omega)]
 rw [key _ (Nat.le_refl _)];have tt:=tr.tree;generalize r=rt at tt ⊢;cases tt with
 |nil h0=>rw [if_neg (by omega)];omega
 | @node _ _ i tp _ _=>
  have hi:=tp.hi;rw [if_pos (by omega)]
theorem aEB {k:bD} (n:aB3 k.clock):A8 k=some false\/(A8 k=some true/\fF k/\k.clock.field.points.length<=10):=by
 unfold A8;rcases TI k with e|⟨e,sh⟩
 · rw [e];exact .inl rfl
 rw [e,aB];unfold CB;rw [aB,Bool.not_false,cond_true]
 by_cases hm:10<Int.ofNat k.clock.field.points.length
 · rw [aN hm];exact .inl rfl
 · rw [aL hm,Bool.not_false,cond_true,ET ⟨n.now,⟨sh.c.s3,sh.c.h,sh.c.w,n.at64⟩,sh.c.d⟩,aB]
   by_cases ok:fF k
   · rw [if_pos ok];exact .inr ⟨rfl,ok,by rw [aF] at hm;omega⟩
   · rw [if_neg ok];exact .inl rfl
theorem aW3 {n:Nat} (h:n<=1000):(if (aA .i64 ((n:Int) -1))>0 then aA .i64 ((n:Int) -1) else 0)=((n-1:Nat):Int):=by
 rw [zD ⟨by omega,by omega⟩]
 split<;>omega
theorem WZ {f:List Pt} (fok:bN f) {t:Int×Int} (r64:oC t): ∃(root:Int) (N:List Nd),tK ⟨f⟩ t=some ⟨root,N⟩/\fL f t N root:=by
 obtain ⟨r,N,h1,h2⟩:=KR fok (t:=t) r64;refine ⟨r,N,?_,h2⟩;unfold qM at h1;cases e:tK ⟨f⟩ t with
 |none=>rw [e] at h1;cases h1
 |some x=>rw [e,aB] at h1;exact h1
theorem aMc {a b:Int×Int} (h:a=b):(!((a.1==b.1)&&(a.2==b.2)))=false:=by subst h;simp
theorem KT {R:bD} {F:List Pt} {t to:Int×Int} (h:EV R F t) (h12:F.length<=12) (to64:oC to):cA R ⟨F⟩ t to=some true:=by
 have ok:=h.ok;have fok:bN F:=by have:=ok.clk.fld;rwa [h.fld] at this
 have t64:oC t:=by have:=ok.clk.now64;rwa [h.now] at this
 have rt:bQ t:=by have:=ok.clk.nowv;rwa [h.now] at this
 have kk:qP R.clock.field ⟨F⟩=some true:=by
  rw [show qP R.clock.field ⟨F⟩=_ from LG R.clock.field.points F (by rw [h.fld];omega),aN h.fld]
 obtain ⟨a,a1,a2⟩:=EX ok (by rw [h.fld];exact h12)
 have fe:R.clock.field=⟨F⟩:=by
  have:=h.fld
  cases hx:R.clock.field;rw [hx] at this;simpa using this
 rw [fe,h.now] at a2;have tr:=ok.tree;have cl:R.clock.certs.list.length=F.length-1:=by
  have e1:=ok.cert.length_eq;rw [List.length_map,aB9 tr,h.fld] at e1;exact e1
 obtain ⟨r,N,m1,m2⟩:=WZ fok t64;rw [h.fld,h.now] at tr;obtain ⟨q1,q2⟩:=m2.same fok.2.2 tr;have nl:=tr.len;have eq:nB R.tree ⟨r,N⟩=some true:=by
  rw [q1,q2,show nB R.tree ⟨R.tree.root,R.tree.nodes⟩=_ from aAU R.tree.root R.tree.root R.tree.nodes R.tree.nodes (by omega),aN ⟨rfl,rfl⟩]
 unfold cA;rw [h.check,aB,bR rfl,cond_false,aMc h.now,cond_false,kk,aB,Bool.not_true,cond_false,a1,aB,a2,aB,bR rfl,cond_false,bR rfl,cond_false];simp only [aF];rw [aW3 (show F.length<=1000 by omega),cl,bR rfl,cond_false,m1,aB,eq,aB,Bool.not_true,cond_false,xY to64,aB]
 by_cases ro:bQ to
 case neg=>rw [if_neg ro];rfl
 rw [if_pos ro,bR rfl,cond_false,G9 t64 to64,aB]
 by_cases l1:0<oH t to
 · rw [aN l1];rfl
 rw [aL l1,cond_false];have le: ¬oH to R.clock.now<0:=by
  rw [h.now];exact fun q=>l1 (by rw [wV] at q;unfold oH;rcases eS (t.1*to.2) (to.1*t.2) with ⟨a,b⟩|⟨a,b⟩|⟨a,b⟩<;>omega)
 obtain ⟨S,s1,s2⟩:=HG ok ro to64 le;rw [s1,aB];rcases s2 with s0|⟨s0,ht,_⟩
 · rw [s0];rfl
 rw [s0,show ((0:Int) !=0)=false from rfl,cond_false];rw [h.fld] at ht;obtain ⟨b,b1,b2⟩:=EX ht.ok (by rw [ht.fld];exact h12)
 have fe2:S.1.clock.field=⟨F⟩:=by
  have:=ht.fld
  cases hx:S.1.clock.field;rw [hx] at this;simpa using this
 rw [fe2,ht.now] at b2;rw [b1,aB,b2,aB,gQ rfl,cond_true,gQ rfl]
theorem aCa {k:bD} (n:aB3 k.clock):xD k=some false\/(xD k=some true/\fF k/\k.clock.field.points.length<=10):=by
 rcases aEB n with e|⟨e,h⟩
 · exact .inl ((show xD k=A8 k from rfl).trans e)
 · exact .inr ⟨(show xD k=A8 k from rfl).trans e,h⟩
structure ZD (a:Field×Int) (b:bD×Int) (t to:Int×Int):Prop where
 cases:(a.2≠0/\b.2=a.2)\/(a.2=0/\b.2=18)\/(a.2=0/\b.2=0/\cA b.1 a.1 t to=some true)
section
variable {k : bD} (ok : fF k) (h10 : k.clock.field.points.length <= 10) {to : Int × Int} (to64 : oC to)
include ok h10 to64
theorem ZE (p:Pt): ∃a b,iV k.clock.field p=some a/\rI k p=some b/\ZD a b k.clock.now to:=by
 rcases aEr ok p with ⟨e,e0,t1,t⟩|⟨m,hm,hp,po,hl,t1,R,r1,r2⟩
 · exact ⟨_,_,t1,t,⟨.inl ⟨e0,rfl⟩⟩⟩
 · refine ⟨_,_,t1,r1,⟨.inr ?_⟩⟩
   rcases r2 with rfl|⟨r0,ht⟩
   · exact .inl ⟨rfl,rfl⟩
   · exact .inr ⟨rfl,r0,KT ht (by rw [O9 hm.le];omega) to64⟩
theorem W0 (id:Int): ∃a b,jA k.clock.field id=some a/\oY k id=some b/\ZD a b k.clock.now to:=by
 rcases aB5 ok id with ⟨_,t1,t⟩|⟨q,hq,he,t1,R,r1,r2⟩
 · exact ⟨_,_,t1,t,⟨.inl ⟨by decide,rfl⟩⟩⟩
 · refine ⟨_,_,t1,r1,⟨.inr ?_⟩⟩
   rcases r2 with rfl|⟨r0,ht⟩
   · exact .inl ⟨rfl,rfl⟩
   · exact .inr ⟨rfl,r0,KT ht (by rw [MC hq];omega) to64⟩
theorem PR (p:Pt): ∃a b,eU k.clock.field p=some a/\lH k p=some b/\ZD a b k.clock.now to:=by
 rcases WX ok p with ⟨e,e0,t1,t⟩|⟨q,hq,he,po,t1,R,r1,r2,_⟩
 · exact ⟨_,_,t1,t,⟨.inl ⟨e0,rfl⟩⟩⟩
 · refine ⟨_,_,t1,r1,⟨.inr ?_⟩⟩
   rcases r2 with rfl|⟨r0,ht⟩
   · exact .inl ⟨rfl,rfl⟩
   · exact .inr ⟨rfl,r0,KT ht (by rw [List.length_set];omega) to64⟩
end
def eaS (k:bD) (p:Pt) (id:Int) (to:Int×Int) (i:Nat):=
 (id,true,(i:Int),k.clock.now.1,k.clock.now.2,k.clock.field.points,k.clock.certs.next_,k.clock.certs.list,k.clock.agenda.slots.uses,k.clock.agenda.slots.used,k.clock.agenda.slots.free,k.clock.agenda.heap,k.clock.agenda.where_,k.clock.due,k.tree.root,k.tree.nodes,p.1,p.2.1,p.2.2,to)
theorem EY (k:bD) (p:Pt) (id:Int) (to:Int×Int) (n:aB3 k.clock) (to64:oC to):vZ k p id to=some true:=by
 unfold vZ;rw [aB];rcases aCa n with e|⟨e,ok,h10⟩
 · rw [e];rfl
 rw [e,aB,Bool.not_true,cond_false,cond_false];obtain ⟨a,b,a1,b1,⟨ab⟩⟩:=ZE ok h10 to64 p;obtain ⟨c,d,c1,d1,⟨cd⟩⟩:=W0 ok h10 to64 id;obtain ⟨x,y,x1,y1,⟨xy⟩⟩:=PR ok h10 to64 p
 have ceta:(bD.mk (aQ.mk (k.clock.now.1,k.clock.now.2) (Field.mk k.clock.field.points) (bL.mk k.clock.certs.next_ k.clock.certs.list) (aP.mk (bC.mk k.clock.agenda.slots.uses k.clock.agenda.slots.used k.clock.agenda.slots.free) k.clock.agenda.heap k.clock.agenda.where_) k.clock.due) (kF.mk k.tree.root k.tree.nodes))=k:=rfl
 have feta:Field.mk k.clock.field.points=k.clock.field:=rfl;have peta:((p.1,p.2.1,p.2.2):Pt)=p:=rfl;have teta:((k.clock.now.1,k.clock.now.2):Int×Int)=k.clock.now:=rfl;have b18:((18:Int) !=18)=false:=rfl;have b00:((0:Int) !=0)=false:=rfl;have e00:((0:Int)==0)=true:=rfl;have b80:((18:Int) !=0)=true:=rfl;have e80:((18:Int)==0)=false:=rfl
 have st: ∀i,i<3->kC (eaS k p id to i)=some (.next (eaS k p id to (i+1))):=fun i hi=>by
  have i3:i=0\/i=1\/i=2:=by omega
  unfold kC eaS;simp only [ceta,feta,peta,teta,aN (show (i:Int)<3 by omega),cond_true,a1,b1,aB,aY (show i<1000000000 by omega)]
  rcases i3 with rfl|rfl|rfl
  · simp only [show (((0:Nat):Int)==1)=false from rfl,show (((0:Nat):Int)==2)=false from rfl,cond_false]
    rcases ab with ⟨q1,q2⟩|⟨q1,q2⟩|⟨q1,q2,q3⟩
    · simp only [q2,eH q1,show (a.2==0)=false by simpa using q1,bne_self_eq_false,cond_true,cond_false]
    · simp only [q1,q2,b18,b00,e00,b80,e80,cond_true,cond_false]
    · simp only [q1,q2,b00,e00,q3,aB,Bool.not_true,cond_true,cond_false]
  · simp only [show (((1:Nat):Int)==1)=true from rfl,show (((1:Nat):Int)==2)=false from rfl,cond_true,cond_false,c1,d1,aB]
    rcases cd with ⟨q1,q2⟩|⟨q1,q2⟩|⟨q1,q2,q3⟩
    · simp only [q2,eH q1,show (c.2==0)=false by simpa using q1,bne_self_eq_false,cond_true,cond_false]
    · simp only [q1,q2,b18,b00,e00,b80,e80,cond_true,cond_false]
    · simp only [q1,q2,b00,e00,q3,aB,Bool.not_true,cond_true,cond_false]
  · simp only [show (((2:Nat):Int)==1)=false from rfl,show (((2:Nat):Int)==2)=true from rfl,cond_true,cond_false,x1,y1,aB]
    rcases xy with ⟨q1,q2⟩|⟨q1,q2⟩|⟨q1,q2,q3⟩
    · simp only [q2,eH q1,show (x.2==0)=false by simpa using q1,bne_self_eq_false,cond_true,cond_false]
    · simp only [q1,q2,b18,b00,e00,b80,e80,cond_true,cond_false]
    · simp only [q1,q2,b00,e00,q3,aB,Bool.not_true,cond_true,cond_false]
 have ws:=cN (body:=kC) (eaS k p id to) 3 st;refine (show _=_ from ws).trans (aI ?_);unfold kC eaS;rfl
theorem aB3.of {c:aQ} (h1:RT.wf [.i .i64,.i .i64] c.now) (h2: ∀a∈c.agenda.heap,RT.wf [.i .i64,.i .i64,.i .i64,.i .i64,.i .i64] a):aB3 c where
 now:=⟨J8 h1.1,J8 h1.2⟩
 at64 w hw:=by
  have:=h2 (c.agenda.heap[w]!) (by rw [getElem!_pos c.agenda.heap w hw];exact List.getElem_mem hw)
  exact ⟨J8 this.1,J8 this.2.1⟩
end Go.Proofs.YthljmpcakagceaaGreat
