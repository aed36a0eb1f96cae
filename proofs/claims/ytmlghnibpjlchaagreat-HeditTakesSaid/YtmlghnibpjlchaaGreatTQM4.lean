/- Plain laws (4). -/
import Derived.Test.YtmlghnibpjlchaaGreatTQM3
import Derived.Test.YtmlghnibpjlchaaGreatTQS2
namespace Go.Proofs.YtmlghnibpjlchaaGreat
open Go.Vm Classical
theorem U4 {f:List Pt} (fok:cB f) {l:List Int} (pm:(wE f).Perm l):JG f (dS l):=by
 have nd:=pm.nodup_iff.1 (rQ fok.2.2);have f1:=fok.1;have ln:l.length=f.length:=by rw [<- pm.length_eq];exact List.length_map ..
 have hp: ∀e∈dS l,jT f e:=fun e he=>⟨xM.1 (pm.mem_iff.2 (HU he).1),xM.1 (pm.mem_iff.2 (HU he).2)⟩
 refine ⟨by rw [nG];omega,fun e he=>?_,hp⟩
 obtain ⟨⟨p1,p2⟩,q1,q2⟩:=And.intro (eZ fok (hp e he).1) (eZ fok (hp e he).2);have ne:=aBm nd he;unfold hY at p1 q1;unfold fK;omega
def iI (l:List Int) (i j:Nat):List Int:=(l.set i l[j]!).set j l[i]!
theorem pI {l:List Int} {i j:Nat} (hi:i<l.length) (hj:j<l.length):(iI l i j).Perm l:=by
 unfold iI;rw [getElem!_pos l i hi,getElem!_pos l j hj];exact List.set_set_perm hi hj
theorem aBp (l:List Int) (hl:l.length<=1000000):sN l l=some true:=by
 unfold sN;rw [cI rfl,cond_false]
 have:=cU (body:=nM) (fun i=>(l,l,(i:Int))) l.length (fun i hi=>by
  unfold nM;simp only [aE,aN (show (i:Int)<(l.length:Int) by omega),cond_true,aB l i hi,aC,cI rfl,cond_false,bA (show i<1000000000 by omega)])
 rw [show (l,l,(0:Int))=(l,l,((0:Nat):Int)) from rfl,this];refine aI ?_;unfold nM;simp only [aE,aL (show¬(l.length:Int)<(l.length:Int) by omega),cond_false]
theorem NU {k:dH} (sh:D7 k.clock) (hl:k.heap.length<=1000000):vW k k=some true:=by
 unfold vW;rw [U2 sh,aC,cond_true,aBp _ hl,aC]
theorem U5 (k:dH):tF k=some true\/(tF k=some false/\D7 k.clock/\k.heap.length<=70):=by
 unfold tF
 rcases SY k.clock with e|⟨e,sh⟩
 · rw [e];exact .inl rfl
 rw [e,aC,cond_false,aE]
 by_cases h:70<k.heap.length
 · rw [aN (by omega)];exact .inl rfl
 · rw [aL (by omega)];exact .inr ⟨rfl,sh,by omega⟩
end Go.Proofs.YtmlghnibpjlchaaGreat
namespace Go.Proofs.YtmlghnibpjlchaaGreat
open Go.Vm Classical
theorem NV {l:List Int} {x:Int} (hl:l.length<=1000000) (hx:x∈l): ∃k,k<l.length/\l[k]! =x/\iK l x=some (k:Int)/\xF l x=some (k:Int):=by
 obtain ⟨k,k1,k2,k3⟩:=CD (c:=fun k=>l[k]! =x) (aZ.1 hx)
 have p:=lG (body:=qC) (fun i=>(l,x,(i:Int))) l.length (fun i=>l[i]! =x) (fun i=>(i:Int)) (e:= -1) (fun i hi=>by
  unfold qC;simp only [aE,aN (show (i:Int)<(l.length:Int) by omega),cond_true,aB l i hi,aC,bA (show i<1000000000 by omega)]
  refine ⟨fun h=>?_,fun h=>?_⟩
  · rw [fZ h];rfl
  · rw [fI h];rfl) (by
  unfold qC;simp only [aE,aL (show¬(l.length:Int)<(l.length:Int) by omega),cond_false])
 exact ⟨k,k1,k2,(L7 l x hl).1 k k1 k2 k3,p.1 k k1 k2 k3⟩
theorem YY {k:dH} (sh:D7 k.clock) (hl:k.heap.length<=1000000):vK k=some k:=by
 unfold vK;rw [U3 sh,aC,aW (by omega),aC]
end Go.Proofs.YtmlghnibpjlchaaGreat
namespace Go.Proofs.YtmlghnibpjlchaaGreat
open Go.Vm Classical
theorem GM {f:List Pt} (fok:cB f) {t:Int×Int} (r64:qK t) {a b:Int} (ha:kZ f a) (hb:kZ f b):lE ⟨f⟩ t a b=some (decide (bQ (bH f a) (bH f b) t)):=by
 obtain ⟨j,j1,j2,j3⟩:=AZ fok ha;obtain ⟨k,k1,k2,k3⟩:=AZ fok hb;unfold lE;simp only [j2,k2,aC,aB f j j1,aB f k k1,j3,k3,LD (eZ fok ha).1 (eZ fok hb).1 r64]
theorem XD {i:Nat} (hi:i<1000000000) (h0:0<i):aA .i64 (Int.tdiv (aA .i64 ((i:Int) -1)) 2)=(((i-1) / 2:Nat):Int):=by
 rw [show aA .i64 ((i:Int) -1)=((i-1:Nat):Int) from uU hi h0,Int.tdiv_eq_ediv_of_nonneg (by omega),jW ⟨by omega,by omega⟩];omega
noncomputable def qI (f:List Pt) (t:Int×Int):Nat->List Int->List Int
 |0,l=>l
 |i+1,l=>if bQ (bH f l[i+1]!) (bH f l[i / 2]!) t then qI f t (i / 2) (iI l (i+1) (i / 2)) else l
termination_by i=>i
decreasing_by omega
theorem MB (f:List Pt) (t:Int×Int): ∀(i:Nat) (l:List Int),i<l.length->(qI f t i l).Perm l:=by
 intro i
 induction i using Nat.strongRecOn with
 |ind i ih=>
  intro l hi;cases i with
  |zero=>unfold qI;exact List.Perm.refl _
  |succ i=>
   unfold qI;split
   · have sp:=pI (l:=l) hi (show i / 2<l.length by omega)
     exact (ih (i / 2) (by omega) _ (by rw [sp.length_eq];omega)).trans sp
   · exact List.Perm.refl _
theorem aBq {f:List Pt} (fok:cB f) {t:Int×Int} (r64:qK t): ∀(i:Nat) (l:List Int),(∀x∈l,kZ f x)->i<l.length->l.length<=1000->
 aH mZ ((i:Int),f,t.1,t.2,l)=some (qI f t i l):=by
 intro i
 induction i using Nat.strongRecOn with
 |ind i ih=>
  intro l hp hi hl;cases i with
  |zero=>
   unfold qI;refine aI ?_;unfold mZ;simp only [aL (show¬(0:Int)<((0:Nat):Int) by omega),cond_false]
  |succ i=>
   have hu:=XD (i:=i+1) (by omega) (by omega)
   rw [show (i+1-1) / 2=i / 2 from rfl] at hu;have hj:i / 2<l.length:=by omega
   have g1:=aB l (i+1) hi;have g2:=aB l (i / 2) hj;have g3:=aB (l.set (i+1) l[i / 2]!) (i / 2) (by rw [List.length_set];exact hj)
   have a2:=GM fok r64 (hp _ (bE hi)) (hp _ (bE hj));have sp:=pI (l:=l) hi hj;have sl:(iI l (i+1) (i / 2)).length=l.length:=sp.length_eq;unfold qI
   by_cases c:bQ (bH f l[i+1]!) (bH f l[i / 2]!) t
   · rw [if_pos c]
     rw [aN c] at a2;rw [aV (y:=(((i / 2:Nat):Int),f,t.1,t.2,iI l (i+1) (i / 2))) (by
      unfold mZ;simp only [aN (show (0:Int)<((i+1:Nat):Int) by omega),cond_true,g1,aC,hu,g2,a2,fX,g3]
      rfl)]
     exact ih (i / 2) (by omega) _ (fun x hx=>hp x (sp.mem_iff.1 hx)) (by omega) (by omega)
   · rw [if_neg c]
     rw [aL c] at a2;refine aI ?_;unfold mZ;simp only [aN (show (0:Int)<((i+1:Nat):Int) by omega),cond_true,g1,aC,hu,g2,a2,cond_false]
theorem aBr {f:List Pt} (fok:cB f) {t:Int×Int} (r64:qK t) {i:Nat} {l:List Int} (hp: ∀x∈l,kZ f x) (hi:i<l.length) (hl:l.length<=1000):tR ⟨f⟩ t l (i:Int)=some (qI f t i l):=by
 unfold tR;rw [aW (by omega),aC]
 exact aBq fok r64 i l hp hi hl
end Go.Proofs.YtmlghnibpjlchaaGreat
namespace Go.Proofs.YtmlghnibpjlchaaGreat
open Go.Vm Classical
theorem XE (p q:Pt) (t:Int×Int):NG p q t=(p.2.1*t.2+p.2.2*t.1) - (q.2.1*t.2+q.2.2*t.1):=by
 rw [aHL,Int.sub_mul,Int.sub_mul];omega
theorem IT {p q r:Pt} {t:Int×Int} (h1:bQ p q t) (h2:bQ q r t):bQ p r t:=by
 unfold bQ at*;rw [XE] at*;generalize p.2.1*t.2+p.2.2*t.1=a at*;generalize q.2.1*t.2+q.2.2*t.1=b at*;generalize r.2.1*t.2+r.2.2*t.1=c at*;omega
theorem S2 {p q:Pt} (t:Int×Int) (h:p.1≠q.1) (hn: ¬bQ p q t):bQ q p t:=by
 unfold bQ at*;rw [XE] at*;generalize p.2.1*t.2+p.2.2*t.1=a at*;generalize q.2.1*t.2+q.2.2*t.1=b at*;omega
theorem kX (l:List Int) (i j:Nat):(iI l i j).length=l.length:=by
 unfold iI;rw [List.length_set,List.length_set]
theorem U6 (l:List Int) {i j:Nat} (hi:i<l.length) (hj:j<l.length):(iI l i j)[j]! =l[i]!:=by
 unfold iI;rw [bD,if_pos ⟨rfl,by rw [List.length_set];exact hj⟩]
noncomputable def zE (f:List Pt) (t:Int×Int):Nat->List Int->Nat
 |0,_=>0
 |i+1,l=>if bQ (bH f l[i+1]!) (bH f l[i / 2]!) t then zE f t (i / 2) (iI l (i+1) (i / 2)) else i+1
termination_by i=>i
decreasing_by omega
theorem S3 (f:List Pt) (t:Int×Int): ∀(i:Nat) (l:List Int),i<l.length->zE f t i l<l.length/\(qI f t i l)[zE f t i l]! =l[i]!:=by
 intro i
 induction i using Nat.strongRecOn with
 |ind i ih=>
  intro l hi;cases i with
  |zero=>unfold zE qI;exact ⟨hi,rfl⟩
  |succ i=>
   unfold zE qI;split
   · have hj:i / 2<l.length:=by omega
     obtain ⟨h1,h2⟩:=ih (i / 2) (by omega) (iI l (i+1) (i / 2)) (by rw [kX];exact hj)
     rw [kX] at h1;exact ⟨h1,by rw [h2,U6 l hi hj]⟩
   · exact ⟨hi,rfl⟩
noncomputable def mH (f:List Pt) (t:Int×Int) (l:List Int) (i:Nat):Nat:=if 2*i+1<l.length/\bQ (bH f l[2*i+1]!) (bH f l[i]!) t then 2*i+1 else i
noncomputable def fB (f:List Pt) (t:Int×Int) (l:List Int) (i:Nat):Nat:=if 2*i+2<l.length/\bQ (bH f l[2*i+2]!) (bH f l[mH f t l i]!) t then 2*i+2 else mH f t l i
theorem rR (f:List Pt) (t:Int×Int) (l:List Int) (i:Nat):mH f t l i=i\/(mH f t l i=2*i+1/\2*i+1<l.length):=by
 unfold mH;split
 · rename_i h;exact .inr ⟨rfl,h.1⟩
 · exact .inl rfl
theorem A1 (f:List Pt) (t:Int×Int) (l:List Int) (i:Nat):fB f t l i=i\/(i<fB f t l i/\fB f t l i<l.length):=by
 unfold fB;split
 · rename_i h;exact .inr ⟨by omega,h.1⟩
 · rcases rR f t l i with h|⟨h,k⟩
   · exact .inl h
   · exact .inr (by omega)
noncomputable def zF (f:List Pt) (t:Int×Int) (l:List Int) (i:Nat):List Int:=
 if h:i<fB f t l i/\fB f t l i<l.length then zF f t (iI l i (fB f t l i)) (fB f t l i) else l
termination_by l.length-i
decreasing_by rw [kX];omega
theorem oU {f:List Pt} {t:Int×Int} {l:List Int} {i:Nat} (h:fB f t l i=i):zF f t l i=l:=by
 unfold zF;rw [dif_neg (by omega)]
theorem GN {f:List Pt} {t:Int×Int} {l:List Int} {i:Nat} (h:fB f t l i≠i):zF f t l i=zF f t (iI l i (fB f t l i)) (fB f t l i):=by
 have:=A1 f t l i
 conv=>lhs;unfold zF
 rw [dif_pos (by omega)]
theorem U7 (f:List Pt) (t:Int×Int): ∀(d:Nat) (l:List Int) (i:Nat),l.length-i<=d->i<l.length->(zF f t l i).Perm l:=by
 intro d
 induction d with
 |zero=>intro l i h hi;omega
 |succ d ih=>
  intro l i h hi
  by_cases e:fB f t l i=i
  · rw [oU e]
  · have:=A1 f t l i
    rw [GN e];exact (ih _ _ (by rw [kX];omega) (by rw [kX];omega)).trans (pI hi (by omega))
theorem aHP {f:List Pt} (fok:cB f) {t:Int×Int} (r64:qK t): ∀(d:Nat) (l:List Int) (i:Nat),l.length-i<=d->i<l.length->l.length<=1000->(∀x∈l,kZ f x)->l.Nodup->aH eX ((i:Int),f,t.1,t.2,l)=some (zF f t l i):=by
 intro d
 induction d with
 |zero=>intro l i h hi;omega
 |succ d ih=>
  intro l i h hi hl hp nd;have e1:aA .i64 (aA .i64 (2*(i:Int))+1)=((2*i+1:Nat):Int):=by
   rw [show aA .i64 (2*(i:Int))=2*(i:Int) from jW ⟨by omega,by omega⟩,jW ⟨by omega,by omega⟩];omega
  have e2:aA .i64 (((2*i+1:Nat):Int)+1)=((2*i+2:Nat):Int):=bA (n:=2*i+1) (by omega)
  have gi:=aB l i hi;have hpi:=hp _ (bE hi);have go: ∀j,i<j->j<l.length->bQ (bH f l[j]!) (bH f l[i]!) t->fB f t l i=j->aH eX ((j:Int),f,t.1,t.2,iI l i j)=some (zF f t l i):=by
   intro j hij hj _ hk;have sp:=pI (l:=l) hi hj;rw [GN (by omega),hk]
   exact ih (iI l i j) j (by rw [kX];omega) (by rw [kX];exact hj) (by rw [kX];exact hl) (fun x hx=>hp x (sp.mem_iff.1 hx)) (sp.nodup_iff.2 nd)
  by_cases h1:2*i+1<l.length
  case neg=>
   have kA:mH f t l i=i:=by unfold mH;rw [if_neg (fun h=>h1 h.1)]
   have kG:fB f t l i=i:=by unfold fB;rw [if_neg (fun h=>h1 (by omega)),kA]
   rw [oU kG];refine aI ?_;unfold eX;simp only [aE,e1,aL (show¬((2*i+1:Nat):Int)<(l.length:Int) by omega),cond_false]
  have g1:=aB l (2*i+1) h1;have hp1:=hp _ (bE h1);have a1:=GM fok (t:=(t.1,t.2)) r64 hp1 hpi;have s1:=aB (l.set i l[2*i+1]!) (2*i+1) (by rw [List.length_set];exact h1)
  by_cases h2:2*i+2<l.length
  · have g2:=aB l (2*i+2) h2
    have hp2:=hp _ (bE h2);have a2:=GM fok (t:=(t.1,t.2)) r64 hp2 hp1;have a3:=GM fok (t:=(t.1,t.2)) r64 hp2 hpi;have s2:=aB (l.set i l[2*i+2]!) (2*i+2) (by rw [List.length_set];exact h2)
    have id1:=(eZ fok hp1).2;have id2:=(eZ fok hp2).2;have ne:l[2*i+1]!≠l[2*i+2]!:=cP.1 nd (2*i+1) (2*i+2) (by omega) h2
    by_cases c2:bQ (bH f l[2*i+2]!) (bH f l[2*i+1]!) t
    · rw [show decide (bQ (bH f l[2*i+2]!) (bH f l[2*i+1]!) (t.1,t.2))=true from aN c2] at a2
      by_cases c3:bQ (bH f l[2*i+2]!) (bH f l[i]!) t
      · rw [show decide (bQ (bH f l[2*i+2]!) (bH f l[i]!) (t.1,t.2))=true from aN c3] at a3
        have kG:fB f t l i=2*i+2:=by
         unfold fB;refine if_pos ⟨h2,?_⟩;rcases rR f t l i with e|⟨e,_⟩
         · rw [e];exact c3
         · rw [e];exact c2
        rw [aV (y:=(((2*i+2:Nat):Int),f,t.1,t.2,iI l i (2*i+2))) (by
         unfold eX;simp only [aE,e1,e2,aN (show ((2*i+1:Nat):Int)<(l.length:Int) by omega),aN (show ((2*i+2:Nat):Int)<(l.length:Int) by omega),cond_true,g1,g2,gi,aC,a2,a3,Bool.not_true,cond_false,fX,s2]
         rfl)]
        exact go (2*i+2) (by omega) h2 c3 kG
      · rw [show decide (bQ (bH f l[2*i+2]!) (bH f l[i]!) (t.1,t.2))=false from aL c3] at a3
        have nA: ¬bQ (bH f l[2*i+1]!) (bH f l[i]!) t:=fun h=>c3 (IT c2 h)
        have kA:mH f t l i=i:=by unfold mH;rw [if_neg (fun h=>nA h.2)]
        have kG:fB f t l i=i:=by unfold fB;rw [kA,if_neg (fun h=>c3 h.2)]
        rw [oU kG];refine aI ?_;unfold eX;simp only [aE,e1,e2,aN (show ((2*i+1:Nat):Int)<(l.length:Int) by omega),aN (show ((2*i+2:Nat):Int)<(l.length:Int) by omega),cond_true,g1,g2,gi,aC,a2,a3,Bool.not_false]
    · rw [show decide (bQ (bH f l[2*i+2]!) (bH f l[2*i+1]!) (t.1,t.2))=false from aL c2] at a2
      have c2':bQ (bH f l[2*i+1]!) (bH f l[2*i+2]!) t:=S2 t (by rw [id1,id2];exact fun h=>ne h.symm) c2
      by_cases c1:bQ (bH f l[2*i+1]!) (bH f l[i]!) t
      · rw [show decide (bQ (bH f l[2*i+1]!) (bH f l[i]!) (t.1,t.2))=true from aN c1] at a1
        have kA:mH f t l i=2*i+1:=by unfold mH;rw [if_pos ⟨h1,c1⟩]
        have kG:fB f t l i=2*i+1:=by unfold fB;rw [kA,if_neg (fun h=>c2 h.2)]
        rw [aV (y:=(((2*i+1:Nat):Int),f,t.1,t.2,iI l i (2*i+1))) (by
         unfold eX;simp only [aE,e1,e2,aN (show ((2*i+1:Nat):Int)<(l.length:Int) by omega),aN (show ((2*i+2:Nat):Int)<(l.length:Int) by omega),cond_true,g1,g2,gi,aC,a2,a1,Bool.not_true,cond_false,fX,s1]
         rfl)]
        exact go (2*i+1) (by omega) h1 c1 kG
      · rw [show decide (bQ (bH f l[2*i+1]!) (bH f l[i]!) (t.1,t.2))=false from aL c1] at a1
        have kA:mH f t l i=i:=by unfold mH;rw [if_neg (fun h=>c1 h.2)]
        have kG:fB f t l i=i:=by unfold fB;rw [kA,if_neg (fun h=>c1 (IT c2' h.2))]
        rw [oU kG];refine aI ?_;unfold eX;simp only [aE,e1,e2,aN (show ((2*i+1:Nat):Int)<(l.length:Int) by omega),aN (show ((2*i+2:Nat):Int)<(l.length:Int) by omega),cond_true,g1,g2,gi,aC,a2,a1,Bool.not_false,cond_false]
  · by_cases c1:bQ (bH f l[2*i+1]!) (bH f l[i]!) t
    · rw [show decide (bQ (bH f l[2*i+1]!) (bH f l[i]!) (t.1,t.2))=true from aN c1] at a1
      have kA:mH f t l i=2*i+1:=by unfold mH;rw [if_pos ⟨h1,c1⟩]
      have kG:fB f t l i=2*i+1:=by unfold fB;rw [kA,if_neg (fun h=>h2 h.1)]
      rw [aV (y:=(((2*i+1:Nat):Int),f,t.1,t.2,iI l i (2*i+1))) (by
       unfold eX;simp only [aE,e1,e2,aN (show ((2*i+1:Nat):Int)<(l.length:Int) by omega),aL (show¬((2*i+2:Nat):Int)<(l.length:Int) by omega),cond_true,g1,gi,aC,a1,Bool.not_true,cond_false,fX,s1]
       rfl)]
      exact go (2*i+1) (by omega) h1 c1 kG
    · rw [show decide (bQ (bH f l[2*i+1]!) (bH f l[i]!) (t.1,t.2))=false from aL c1] at a1
      have kA:mH f t l i=i:=by unfold mH;rw [if_neg (fun h=>c1 h.2)]
      have kG:fB f t l i=i:=by unfold fB;rw [kA,if_neg (fun h=>h2 h.1)]
      rw [oU kG];refine aI ?_;unfold eX;simp only [aE,e1,e2,aN (show ((2*i+1:Nat):Int)<(l.length:Int) by omega),aL (show¬((2*i+2:Nat):Int)<(l.length:Int) by omega),cond_true,g1,gi,aC,a1,Bool.not_false,cond_false]
end Go.Proofs.YtmlghnibpjlchaaGreat
namespace Go.Proofs.YtmlghnibpjlchaaGreat
open Go.Vm Classical
theorem aBs {f:List Pt} (fok:cB f) (k:Nat):cB (f.eraseIdx k):=by
 refine ⟨Nat.le_trans (List.length_eraseIdx_le f k) fok.1,fun p hp=>fok.2.1 p (List.mem_of_mem_eraseIdx hp),?_⟩
 have h:=fok.2.2;intro i hi;have hl:=List.length_eraseIdx_le f k
 by_cases hk:k<f.length
 · have:=JE hk
   rw [AW,AW];split<;>split<;>exact jE h (by omega) (by omega)
 · rw [List.eraseIdx_of_length_le (by omega)] at hi ⊢
   exact h i hi
theorem S4 {f:List Pt} (fok:cB f) {k:Nat} (hk:k<f.length):jL ⟨f⟩ (f[k]!).1=some ((k:Int),0):=by
 have h1:=fok.1;have hc:fF ⟨f⟩=some 0:=by rw [iU];exact congrArg some (gQ.2 fok)
 have bs:=AV f (f[k]!).1 (by omega) (fun i j=>jE fok.2.2)
 unfold jL rD;rw [JD];simp only [hc,aC,show ((0:Int) !=0)=false from rfl,cond_false,bs.1 k hk rfl,Bool.not_true]
theorem ML {f:List Pt} (fok:cB f) {id:Int} (h: ¬kZ f id):jL ⟨f⟩ id=some (0,6):=by
 have h1:=fok.1;have hc:fF ⟨f⟩=some 0:=by rw [iU];exact congrArg some (gQ.2 fok)
 have bs:=AV f id (by omega) (fun i j=>jE fok.2.2)
 obtain ⟨m,_,_,_,e⟩:=bs.2 (fun k hk he=>h ⟨k,hk,he⟩)
 unfold jL rD;rw [JD];simp only [hc,aC,show ((0:Int) !=0)=false from rfl,cond_false,e,Bool.not_false,cond_true]
theorem PO:jN=dU:=rfl
theorem U8 {f:List Pt} (fok:cB f) {k:Nat} (hk:k<f.length):mS ⟨f⟩ (f[k]!).1=some (⟨f.eraseIdx k⟩,0)/\mY ⟨f⟩ (f[k]!).1=some (⟨f.eraseIdx k⟩,0):=by
 have f1:=fok.1;constructor
 · obtain ⟨L,d1,d2⟩:=CK f k hk
   unfold mS;rw [S4 fok hk,aC,cI rfl,cond_false,aW (show f.length<=1048576 by omega),aC,bA (show k<1000000000 by omega),PO,d1,aC]
   show some (Field.mk (L.take (f.length-1)),(0:Int))=_;rw [d2]
 · have hc:mW ⟨f⟩=some 0:=by rw [vZ];exact congrArg some (gQ.2 fok)
   unfold mY;rw [hc,aC,cI rfl,cond_false,NI fok.2.2 (by omega) hk rfl,aC,aL (by omega),cond_false]
   unfold xX;generalize hn:(f[k]!).1=n;have key:=cU (body:=iL) (fun i=>(n,(i:Int),f,(f.take i).filter (fun x=>x.1 !=n))) f.length (fun i hi=>by
    have nx:(f.take (i+1)).filter (fun x=>x.1 !=n)=(f.take i).filter (fun x=>x.1 !=n)++(if (f[i]!).1 !=n then [f[i]!] else []):=by
     rw [iV hi,List.filter_append,List.filter_cons,List.filter_nil]
    have fl:((f.take i).filter (fun x=>x.1 !=n)).length<=200:=Nat.le_trans (List.length_filter_le _ _) (by rw [List.length_take];omega)
    unfold iL;simp only [aE,aN (show (i:Int)<(f.length:Int) by omega),cond_true,aB f i hi,aC,bA (show i<1000000000 by omega),nx]
    by_cases h:(f[i]!).1=n
    · rw [cI h];simp
    · rw [eJ h]
      simp only [cond_true,if_true,fE (show ((f.take i).filter (fun x=>x.1 !=n)).length+[f[i]!].length<=1048576 by simp only [List.length_cons,List.length_nil];omega),aC])
   have fin:aH iL (n,(f.length:Int),f,(f.take f.length).filter (fun x=>x.1 !=n))=some ⟨f.eraseIdx k⟩:=aI (by
    unfold iL;simp only [aE,aL (show¬(f.length:Int)<(f.length:Int) by omega),cond_false,List.take_length]
    rw [GH hk (fun i j=>jE fok.2.2) hn])
   rw [show aH iL (n,0,f,[])=_ from key,fin,aC]
theorem PP {f:List Pt} (fok:cB f) {id:Int} (h: ¬kZ f id):mS ⟨f⟩ id=some (⟨[]⟩,6)/\mY ⟨f⟩ id=some (⟨[]⟩,6):=by
 constructor
 · unfold mS
   rw [ML fok h];rfl
 · have hc:mW ⟨f⟩=some 0:=by rw [vZ];exact congrArg some (gQ.2 fok)
   unfold mY;rw [hc,aC,cI rfl,cond_false,PJ fok h];rfl
end Go.Proofs.YtmlghnibpjlchaaGreat
namespace Go.Proofs.YtmlghnibpjlchaaGreat
open Go.Vm Classical
theorem CP (l:List Int) (hl:l.length<=1000):wZ l=some (dS l):=by
 have n:aA .i64 ((l.length:Int) - (if (l.length:Int)<1 then (l.length:Int) else 1))=((l.length-1:Nat):Int):=by
  split
  · rw [jW ⟨by omega,by omega⟩];omega
  · rw [jW ⟨by omega,by omega⟩];omega
 have key:=cU (body:=mT) (fun i=>(l,((l.length-1:Nat):Int),(i:Int),uC l i)) (l.length-1) (fun i hi=>by
  have e:aA .i64 (Int.tdiv (i:Int) 2)=((i / 2:Nat):Int):=by
   rw [Int.tdiv_eq_ediv_of_nonneg (by omega),jW ⟨by omega,by omega⟩];omega
  unfold mT;simp only [aN (show (i:Int)<((l.length-1:Nat):Int) by omega),cond_true,bA (show i<1000000000 by omega),aB l (i+1) (by omega),e,aB l (i / 2) (by omega),aC]
  rw [fE (by rw [nG,List.length_singleton];omega),aC,<- IQ])
 unfold wZ;simp only [aE,n];rw [show aH mT (l,((l.length-1:Nat):Int),0,[])=_ from key];refine aI ?_;unfold mT;simp only [aL (show¬((l.length-1:Nat):Int)<((l.length-1:Nat):Int) by omega),cond_false]
structure S5 (R:dH×Int):Prop where
 c:D7 R.1.clock
 h:R.1.heap.length<=1000
theorem qJ {c:aP} (ok:bF c) {f:List Pt} (fok:cB f) {l:List Int} (pm:(wE f).Perm l):
 ∃R:dH×Int,cD c ⟨f⟩ l=some R/\oS c ⟨f⟩ l=some R/\S5 R:=by
 have f1:=fok.1;have ln:l.length=f.length:=by rw [<- pm.length_eq];exact List.length_map ..
 have eok:=U4 fok pm;have nd:=pm.nodup_iff.1 (rQ fok.2.2);obtain ⟨r,r1,r2,r3⟩:=aHK ok fok eok;have ee:nO f (dS l)=0:=by
  unfold nO;rw [if_neg (Classical.not_not.2 eok.cv),if_neg (Classical.not_not.2 (IS nd)),if_neg (fun h=>h eok.kn)]
 have rn:=L6 ok fok (es:=dS l) (by rw [nG];omega) (fun _=>r1)
 rw [if_pos ee] at rn;rcases r3 with ⟨q0,q⟩|he
 · refine ⟨(⟨r.1,l⟩,0),?_,?_,⟨q.ok.short,by show l.length<=1000;omega⟩⟩
   · unfold cD
     rw [CP l (by omega),aC,rn,aC,q0];rfl
   · unfold oS
     rw [aBl l (by omega),aC,r2,aC,q0];rfl
 · refine ⟨(⟨dC,[]⟩,18),?_,?_,⟨D8,Nat.zero_le _⟩⟩
   · unfold cD
     rw [CP l (by omega),aC,rn,aC,he];rfl
   · unfold oS
     rw [aBl l (by omega),aC,r2,aC,he];rfl
theorem U9 {f:List Pt} (fok:cB f) {t:Int×Int} (r:cE t) (r64:qK t) {a b:Int} (ha:kZ f a) (hb:kZ f b) (hne:a≠b):iE (bH f a) (bH f b) t=some (decide (bQ (bH f a) (bH f b) t),0):=by
 obtain ⟨p1,p2⟩:=eZ fok ha;obtain ⟨q1,q2⟩:=eZ fok hb;have ne:(bH f a).1≠(bH f b).1:=by rw [p2,q2];exact hne
 rcases BE p1 q1 r64 r with h|⟨h,_⟩
 · rw [h,if_neg ne]
 · exact absurd h ne
theorem YZ {f:List Pt} (fok:cB f) {t:Int×Int} (r64:qK t) {l:List Int} (hp: ∀x∈l,kZ f x) (nd:l.Nodup) {i:Nat} (hi:i<l.length) (hl:l.length<=1000):
 uT ⟨f⟩ t l (i:Int)=some (zF f t (qI f t i l) (zE f t i l)):=by
 have pm:=MB f t i l hi;obtain ⟨h1,h2⟩:=S3 f t i l hi;have le:=pm.length_eq;have nd':=pm.nodup_iff.2 nd;obtain ⟨j,j1,j2,_,j4⟩:=NV (l:=qI f t i l) (x:=l[i]!) (by omega) (pm.mem_iff.2 (bE hi))
 have ej:j=zE f t i l:=by
  rcases Nat.lt_trichotomy j (zE f t i l) with h|h|h
  · exact absurd (j2.trans h2.symm) (cP.1 nd' _ _ h (by omega))
  · exact h
  · exact absurd (h2.trans j2.symm) (cP.1 nd' _ _ h (by omega))
 unfold uT EV;rw [aB l i hi,aC,aBr fok r64 hp hi hl,aC,j4,aC,aW (by omega),aC,ej]
 rw [show aH eX _=_ from aHP fok r64 (qI f t i l).length (qI f t i l) (zE f t i l) (by omega) (by omega) (by omega) (fun x hx=>hp x (pm.mem_iff.1 hx)) nd',aC]
end Go.Proofs.YtmlghnibpjlchaaGreat
namespace Go.Proofs.YtmlghnibpjlchaaGreat
open Go.Vm Classical
def tS (k:dH) (f:List Pt) (m n0 i:Nat) (L:List Int):=
 ((i:Int),k.clock.now.1,k.clock.now.2,k.clock.field.points,k.clock.certs.next_,k.clock.certs.list,k.clock.agenda.slots.uses,k.clock.agenda.slots.used,k.clock.agenda.slots.free,k.clock.agenda.heap,k.clock.agenda.where_,k.clock.due,k.heap,(0:Int),(0:Int),(0:Int),f,L,f,k.clock.now.1,k.clock.now.2,m,n0)
def tJ (k:dH) (f:List Pt) (m n0 i:Nat) (L:List Int) (p q:Pt):=
 ((i:Int),k.clock.now.1,k.clock.now.2,k.clock.field.points,k.clock.certs.next_,k.clock.certs.list,k.clock.agenda.slots.uses,k.clock.agenda.slots.used,k.clock.agenda.slots.free,k.clock.agenda.heap,k.clock.agenda.where_,k.clock.due,k.heap,(0:Int),(0:Int),(0:Int),f,L,f,k.clock.now.1,k.clock.now.2,m,n0,p.1,p.2.1,p.2.2,q)
structure CQ (k:dH) (f:List Pt):Prop where
 clk:bF k.clock
 fok:cB f
structure yG (f:List Pt) (m:Nat) (l:List Int):Prop where
 len:l.length=m
 small:m<=100
 hp: ∀x∈l,kZ f x
 nd:l.Nodup
theorem tk {l:List Int} {m:Nat} {x:Int} (h:l.length=m):(l++[x]).take m=l:=by rw [<- h,List.take_left]
section
variable {k : dH} {f : List Pt} {m n0 : Nat} {x : Int}
theorem XF (ok:CQ k f) {c0:_} {c1:List Int} {l:List Int} (hl:yG f m l) {i b j:Nat} (hi:i<m) (hb:b<m) (hj:j<m) (h2:j<=2*i+2) (hne:j≠b):
 jP c0 c1 ((i:Int),(b:Int),(j:Int),(tS k f m n0 i (l++[x])).2)=some (.next ((i:Int),((if bQ (bH f l[j]!) (bH f l[b]!) k.clock.now then j else b:Nat):Int),((j+1:Nat):Int),(tS k f m n0 i (l++[x])).2)):=by
 have hm:=hl.len;have m1:=hl.small;have e:aA .i64 (aA .i64 (2*(i:Int))+2)=((2*i+2:Nat):Int):=by
  rw [show aA .i64 (2*(i:Int))=2*(i:Int) from jW ⟨by omega,by omega⟩,jW ⟨by omega,by omega⟩];omega
 have pj:=hl.hp _ (bE (show j<l.length by omega))
 have pb:=hl.hp _ (bE (show b<l.length by omega))
 have ne:l[j]!≠l[b]!:=fun h=>by
  rcases Nat.lt_trichotomy j b with q|q|q
  · exact cP.1 hl.nd _ _ q (by omega) h
  · exact hne q
  · exact cP.1 hl.nd _ _ q (by omega) h.symm
 have a:=U9 ok.fok (t:=(k.clock.now.1,k.clock.now.2)) ok.clk.nowv ok.clk.now64 pj pb ne;unfold jP tS;simp only [aE,e,aN (show (j:Int)<=((2*i+2:Nat):Int) by omega),aN (show (j:Int)<(m:Int) by omega),cond_true,tk hm,aB l j (by omega),aB l b (by omega),aC,fO ok.fok pj,fO ok.fok pb,a,beq_self_eq_true,bA (show j<1000000000 by omega)]
 by_cases c:bQ (bH f l[j]!) (bH f l[b]!) k.clock.now
 · rw [show decide (bQ (bH f l[j]!) (bH f l[b]!) (k.clock.now.1,k.clock.now.2))=true from aN c,if_pos c];rfl
 · rw [show decide (bQ (bH f l[j]!) (bH f l[b]!) (k.clock.now.1,k.clock.now.2))=false from aL c,if_neg c];rfl
theorem aNr {c1:List Int} (hc:c1.length=m+1) {L0:List Int} (h0:L0.length=m+1) {n1 i0:Nat} {l:List Int} (hl:yG f m l) {i b j:Nat} (hi:i<m) (hb:b<m) (he: ¬(j<=2*i+2/\j<m)):
 jP (tS k f m n1 i0 L0) c1 ((i:Int),(b:Int),(j:Int),(tS k f m n0 i (l++[x])).2)=if b=i then (cD k.clock ⟨f⟩ l).bind fun a=>some (.done (.done (.done a))) else some (.done (.next (tS k f m n0 b (iI l i b++[x])))):=by
 have hm:=hl.len;have m1:=hl.small;have e:aA .i64 (aA .i64 (2*(i:Int))+2)=((2*i+2:Nat):Int):=by
  rw [show aA .i64 (2*(i:Int))=2*(i:Int) from jW ⟨by omega,by omega⟩,jW ⟨by omega,by omega⟩];omega
 have ec:(aA .i64 ((c1.length:Int) -1)).toNat=m:=by rw [jW ⟨by omega,by omega⟩];omega
 have lx:(l++[x]).length=L0.length:=by rw [List.length_append,List.length_singleton];omega
 have sa:(l++[x]).set i l[b]! =l.set i l[b]!++[x]:=List.set_append_left _ _ (by omega)
 have sb:(l.set i l[b]!++[x]).set b l[i]! =iI l i b++[x]:=List.set_append_left _ _ (by rw [List.length_set];omega)
 have t1:(l.set i l[b]!++[x]).take m=l.set i l[b]!:=tk (by rw [List.length_set];exact hm)
 have g1:=aB (l.set i l[b]!) b (by rw [List.length_set];omega)
 have ceta:(aP.mk (k.clock.now.1,k.clock.now.2) (Field.mk k.clock.field.points) (aU.mk k.clock.certs.next_ k.clock.certs.list) (aG.mk (aQ.mk k.clock.agenda.slots.uses k.clock.agenda.slots.used k.clock.agenda.slots.free) k.clock.agenda.heap k.clock.agenda.where_) k.clock.due)=k.clock:=rfl;unfold jP tS
 by_cases h1:j<=2*i+2
 · have h2: ¬j<m:=fun h=>he ⟨h1,h⟩
   simp only [aE,e,aN (show (j:Int)<=((2*i+2:Nat):Int) by omega),aL (show¬(j:Int)<(m:Int) by omega),cond_true,cond_false,tk hm,aB l i (by omega),aB l b (by omega),aC,fX,sa,sb,t1,g1,lx,beq_self_eq_true,ec,ceta]
   by_cases hbi:b=i
   · rw [if_pos hbi,fZ (by omega),cond_true]
   · rw [if_neg hbi,fI (by omega),cond_false]
 · simp only [aE,e,aL (show¬(j:Int)<=((2*i+2:Nat):Int) by omega),cond_true,cond_false,tk hm,aB l i (by omega),aB l b (by omega),aC,fX,sa,sb,t1,g1,lx,beq_self_eq_true,ec,ceta]
   by_cases hbi:b=i
   · rw [if_pos hbi,fZ (by omega),cond_true]
   · rw [if_neg hbi,fI (by omega),cond_false]
theorem aPO (ok:CQ k f) {c1:List Int} (hc:c1.length=m+1) {L0:List Int} (h0:L0.length=m+1) {n1 i0:Nat} {l:List Int} (hl:yG f m l) {i:Nat} (hi:i<m) {R:List Int->dH×Int} (hR:cD k.clock ⟨f⟩ l=some (R l)):
 aH (jP (tS k f m n1 i0 L0) c1) ((i:Int),(i:Int),((2*i+1:Nat):Int),(tS k f m n0 i (l++[x])).2)=some (if fB f k.clock.now l i=i then .done (.done (R l)) else .next (tS k f m n0 (fB f k.clock.now l i) (iI l i (fB f k.clock.now l i)++[x]))):=by
 have hm:=hl.len;have fin: ∀b j:Nat,b<m-> ¬(j<=2*i+2/\j<m)->fB f k.clock.now l i=b->aH (jP (tS k f m n1 i0 L0) c1) ((i:Int),(b:Int),(j:Int),(tS k f m n0 i (l++[x])).2)=some (if fB f k.clock.now l i=i then .done (.done (R l)) else .next (tS k f m n0 (fB f k.clock.now l i) (iI l i (fB f k.clock.now l i)++[x]))):=by
  intro b j hb he hk;rw [hk]
  have:=aNr (k:=k) (n0:=n0) (x:=x) hc h0 (n1:=n1) (i0:=i0) hl hi hb he
  by_cases hbi:b=i
  · rw [if_pos hbi,hR,aC] at this
    rw [if_pos hbi];exact aI this
  · rw [if_neg hbi] at this
    rw [if_neg hbi];exact aI this
 have kA:mH f k.clock.now l i<m:=by rcases rR f k.clock.now l i with h|⟨h,h2⟩<;>omega
 by_cases h1:2*i+1<m
 case neg=>
  have e1:mH f k.clock.now l i=i:=by unfold mH;rw [if_neg (fun h=>h1 (by omega))]
  have e2:fB f k.clock.now l i=i:=by unfold fB;rw [if_neg (fun h=>h1 (by omega)),e1]
  exact fin i (2*i+1) hi (fun h=>h1 h.2) e2
 rw [aV (XF ok hl hi hi h1 (by omega) (by omega))]
 have eA:(if bQ (bH f l[2*i+1]!) (bH f l[i]!) k.clock.now then 2*i+1 else i)=mH f k.clock.now l i:=by
  unfold mH
  by_cases c:bQ (bH f l[2*i+1]!) (bH f l[i]!) k.clock.now
  · rw [if_pos c,if_pos ⟨by omega,c⟩]
  · rw [if_neg c,if_neg (fun h=>c h.2)]
 rw [eA]
 by_cases h2:2*i+1+1<m
 case neg=>
  have e2:fB f k.clock.now l i=mH f k.clock.now l i:=by unfold fB;rw [if_neg (fun h=>h2 (by omega))]
  exact fin _ (2*i+1+1) kA (fun h=>h2 h.2) e2
 have nk:2*i+1+1≠mH f k.clock.now l i:=by rcases rR f k.clock.now l i with h|⟨h,_⟩<;>omega
 rw [aV (XF ok hl hi kA h2 (by omega) nk)]
 have eG:(if bQ (bH f l[2*i+1+1]!) (bH f l[mH f k.clock.now l i]!) k.clock.now then 2*i+1+1 else mH f k.clock.now l i)=fB f k.clock.now l i:=by
  unfold fB
  by_cases c:bQ (bH f l[2*i+1+1]!) (bH f l[mH f k.clock.now l i]!) k.clock.now
  · rw [if_pos c,if_pos ⟨by omega,c⟩]
  · rw [if_neg c,if_neg (fun h=>c h.2)]
 rw [eG];exact fin _ (2*i+1+1+1) (by rw [<- eG];split<;>omega) (fun h=>by omega) rfl
theorem XG (ok:CQ k f) {c0:_} {c1:List Int} {l:List Int} (hl:yG f m l) {i b j:Nat} (hi:i<m) (hb:b<m) (hj:j<m) (h2:j<=2*i+2) (hne:j≠b) {p q:Pt}:
 jO c0 c1 ((i:Int),(b:Int),(j:Int),(tJ k f m n0 i (l++[x]) p q).2)=some (.next ((i:Int),((if bQ (bH f l[j]!) (bH f l[b]!) k.clock.now then j else b:Nat):Int),((j+1:Nat):Int),(tJ k f m n0 i (l++[x]) p q).2)):=by
 have hm:=hl.len;have m1:=hl.small;have e:aA .i64 (aA .i64 (2*(i:Int))+2)=((2*i+2:Nat):Int):=by
  rw [show aA .i64 (2*(i:Int))=2*(i:Int) from jW ⟨by omega,by omega⟩,jW ⟨by omega,by omega⟩];omega
 have pj:=hl.hp _ (bE (show j<l.length by omega))
 have pb:=hl.hp _ (bE (show b<l.length by omega))
 have ne:l[j]!≠l[b]!:=fun h=>by
  rcases Nat.lt_trichotomy j b with q|q|q
  · exact cP.1 hl.nd _ _ q (by omega) h
  · exact hne q
  · exact cP.1 hl.nd _ _ q (by omega) h.symm
 have a:=U9 ok.fok (t:=(k.clock.now.1,k.clock.now.2)) ok.clk.nowv ok.clk.now64 pj pb ne;unfold jO tJ;simp only [aE,e,aN (show (j:Int)<=((2*i+2:Nat):Int) by omega),aN (show (j:Int)<(m:Int) by omega),cond_true,tk hm,aB l j (by omega),aB l b (by omega),aC,fO ok.fok pj,fO ok.fok pb,a,beq_self_eq_true,bA (show j<1000000000 by omega)]
 by_cases c:bQ (bH f l[j]!) (bH f l[b]!) k.clock.now
 · rw [show decide (bQ (bH f l[j]!) (bH f l[b]!) (k.clock.now.1,k.clock.now.2))=true from aN c,if_pos c];rfl
 · rw [show decide (bQ (bH f l[j]!) (bH f l[b]!) (k.clock.now.1,k.clock.now.2))=false from aL c,if_neg c];rfl
theorem aNs {c1:List Int} (hc:c1.length=m+1) {L0:List Int} (h0:L0.length=m+1) {n1 i0:Nat} {l:List Int} (hl:yG f m l) {i b j:Nat} (hi:i<m) (hb:b<m) (he: ¬(j<=2*i+2/\j<m)) {p q:Pt}:
 jO (tS k f m n1 i0 L0) c1 ((i:Int),(b:Int),(j:Int),(tJ k f m n0 i (l++[x]) p q).2)=if b=i then (cD k.clock ⟨f⟩ l).bind fun a=>some (.done (.done (.done a))) else some (.done (.next (tJ k f m n0 b (iI l i b++[x]) p q))):=by
 have hm:=hl.len;have m1:=hl.small;have e:aA .i64 (aA .i64 (2*(i:Int))+2)=((2*i+2:Nat):Int):=by
  rw [show aA .i64 (2*(i:Int))=2*(i:Int) from jW ⟨by omega,by omega⟩,jW ⟨by omega,by omega⟩];omega
 have ec:(aA .i64 ((c1.length:Int) -1)).toNat=m:=by rw [jW ⟨by omega,by omega⟩];omega
 have lx:(l++[x]).length=L0.length:=by rw [List.length_append,List.length_singleton];omega
 have sa:(l++[x]).set i l[b]! =l.set i l[b]!++[x]:=List.set_append_left _ _ (by omega)
 have sb:(l.set i l[b]!++[x]).set b l[i]! =iI l i b++[x]:=List.set_append_left _ _ (by rw [List.length_set];omega)
 have t1:(l.set i l[b]!++[x]).take m=l.set i l[b]!:=tk (by rw [List.length_set];exact hm)
 have g1:=aB (l.set i l[b]!) b (by rw [List.length_set];omega)
 have ceta:(aP.mk (k.clock.now.1,k.clock.now.2) (Field.mk k.clock.field.points) (aU.mk k.clock.certs.next_ k.clock.certs.list) (aG.mk (aQ.mk k.clock.agenda.slots.uses k.clock.agenda.slots.used k.clock.agenda.slots.free) k.clock.agenda.heap k.clock.agenda.where_) k.clock.due)=k.clock:=rfl;unfold jO tS tJ
 by_cases h1:j<=2*i+2
 · have h2: ¬j<m:=fun h=>he ⟨h1,h⟩
   simp only [aE,e,aN (show (j:Int)<=((2*i+2:Nat):Int) by omega),aL (show¬(j:Int)<(m:Int) by omega),cond_true,cond_false,tk hm,aB l i (by omega),aB l b (by omega),aC,fX,sa,sb,t1,g1,lx,beq_self_eq_true,ec,ceta]
   by_cases hbi:b=i
   · rw [if_pos hbi,fZ (by omega),cond_true]
   · rw [if_neg hbi,fI (by omega),cond_false]
 · simp only [aE,e,aL (show¬(j:Int)<=((2*i+2:Nat):Int) by omega),cond_true,cond_false,tk hm,aB l i (by omega),aB l b (by omega),aC,fX,sa,sb,t1,g1,lx,beq_self_eq_true,ec,ceta]
   by_cases hbi:b=i
   · rw [if_pos hbi,fZ (by omega),cond_true]
   · rw [if_neg hbi,fI (by omega),cond_false]
theorem aPP (ok:CQ k f) {c1:List Int} (hc:c1.length=m+1) {L0:List Int} (h0:L0.length=m+1) {n1 i0:Nat} {l:List Int} (hl:yG f m l) {i:Nat} (hi:i<m) {p q:Pt} {R:List Int->dH×Int} (hR:cD k.clock ⟨f⟩ l=some (R l)):
 aH (jO (tS k f m n1 i0 L0) c1) ((i:Int),(i:Int),((2*i+1:Nat):Int),(tJ k f m n0 i (l++[x]) p q).2)=some (if fB f k.clock.now l i=i then .done (.done (R l)) else .next (tJ k f m n0 (fB f k.clock.now l i) (iI l i (fB f k.clock.now l i)++[x]) p q)):=by
 have hm:=hl.len;have fin: ∀b j:Nat,b<m-> ¬(j<=2*i+2/\j<m)->fB f k.clock.now l i=b->aH (jO (tS k f m n1 i0 L0) c1) ((i:Int),(b:Int),(j:Int),(tJ k f m n0 i (l++[x]) p q).2)=some (if fB f k.clock.now l i=i then .done (.done (R l)) else .next (tJ k f m n0 (fB f k.clock.now l i) (iI l i (fB f k.clock.now l i)++[x]) p q)):=by
  intro b j hb he hk;rw [hk]
  have:=aNs (k:=k) (n0:=n0) (x:=x) hc h0 (n1:=n1) (i0:=i0) hl hi hb he (p:=p) (q:=q)
  by_cases hbi:b=i
  · rw [if_pos hbi,hR,aC] at this
    rw [if_pos hbi];exact aI this
  · rw [if_neg hbi] at this
    rw [if_neg hbi];exact aI this
 have kA:mH f k.clock.now l i<m:=by rcases rR f k.clock.now l i with h|⟨h,h2⟩<;>omega
 by_cases h1:2*i+1<m
 case neg=>
  have e1:mH f k.clock.now l i=i:=by unfold mH;rw [if_neg (fun h=>h1 (by omega))]
  have e2:fB f k.clock.now l i=i:=by unfold fB;rw [if_neg (fun h=>h1 (by omega)),e1]
  exact fin i (2*i+1) hi (fun h=>h1 h.2) e2
 rw [aV (XG ok hl hi hi h1 (by omega) (by omega) (p:=p) (q:=q))]
 have eA:(if bQ (bH f l[2*i+1]!) (bH f l[i]!) k.clock.now then 2*i+1 else i)=mH f k.clock.now l i:=by
  unfold mH
  by_cases c:bQ (bH f l[2*i+1]!) (bH f l[i]!) k.clock.now
  · rw [if_pos c,if_pos ⟨by omega,c⟩]
  · rw [if_neg c,if_neg (fun h=>c h.2)]
 rw [eA]
 by_cases h2:2*i+1+1<m
 case neg=>
  have e2:fB f k.clock.now l i=mH f k.clock.now l i:=by unfold fB;rw [if_neg (fun h=>h2 (by omega))]
  exact fin _ (2*i+1+1) kA (fun h=>h2 h.2) e2
 have nk:2*i+1+1≠mH f k.clock.now l i:=by rcases rR f k.clock.now l i with h|⟨h,_⟩<;>omega
 rw [aV (XG ok hl hi kA h2 (by omega) nk (p:=p) (q:=q))]
 have eG:(if bQ (bH f l[2*i+1+1]!) (bH f l[mH f k.clock.now l i]!) k.clock.now then 2*i+1+1 else mH f k.clock.now l i)=fB f k.clock.now l i:=by
  unfold fB
  by_cases c:bQ (bH f l[2*i+1+1]!) (bH f l[mH f k.clock.now l i]!) k.clock.now
  · rw [if_pos c,if_pos ⟨by omega,c⟩]
  · rw [if_neg c,if_neg (fun h=>c h.2)]
 rw [eG];exact fin _ (2*i+1+1+1) (by rw [<- eG];split<;>omega) (fun h=>by omega) rfl
theorem aPQ (ok:CQ k f) {c1:List Int} (hc:c1.length=m+1) {L0:List Int} (h0:L0.length=m+1) {n1 i0:Nat} {R:List Int->dH×Int} {l0:List Int} (hR: ∀l:List Int,l.Perm l0->cD k.clock ⟨f⟩ l=some (R l)):
 ∀(d:Nat) (l:List Int) (i:Nat),m-i<=d->i<m->yG f m l->l.Perm l0->aH (sC (tS k f m n1 i0 L0) c1) (tS k f m n0 i (l++[x]))=some (.done (R (zF f k.clock.now l i))):=by
 intro d
 induction d with
 |zero=>intro l i h hi;omega
 |succ d ih=>
  intro l i h hi hl pm;have hm:=hl.len;have m1:=hl.small;have e:aA .i64 (aA .i64 (2*(i:Int))+1)=((2*i+1:Nat):Int):=by
   rw [show aA .i64 (2*(i:Int))=2*(i:Int) from jW ⟨by omega,by omega⟩,jW ⟨by omega,by omega⟩];omega
  have g:=aPO (k:=k) (n0:=n0) (x:=x) ok hc h0 (n1:=n1) (i0:=i0) hl hi (hR l pm);have st:sC (tS k f m n1 i0 L0) c1 (tS k f m n0 i (l++[x]))=some (if fB f k.clock.now l i=i then .done (.done (R l)) else .next (tS k f m n0 (fB f k.clock.now l i) (iI l i (fB f k.clock.now l i)++[x]))):=by
   unfold sC;rw [show (tS k f m n0 i (l++[x])).1=(i:Int) from rfl,e];exact g
  by_cases hk:fB f k.clock.now l i=i
  · rw [if_pos hk] at st
    rw [oU hk];exact aI st
  · rw [if_neg hk] at st
    have kc:=A1 f k.clock.now l i;have sp:=pI (l:=l) (i:=i) (j:=fB f k.clock.now l i) (by omega) (by omega)
    rw [aV st,GN hk];exact ih _ _ (by omega) (by omega) ⟨by rw [kX];exact hm,hl.small,fun y hy=>hl.hp y (sp.mem_iff.1 hy),sp.nodup_iff.2 hl.nd⟩ (sp.trans pm)
theorem aPR (ok:CQ k f) {c1:List Int} (hc:c1.length=m+1) {L0:List Int} (h0:L0.length=m+1) {n1 i0:Nat} {p q:Pt} {R:List Int->dH×Int} {l0:List Int} (hR: ∀l:List Int,l.Perm l0->cD k.clock ⟨f⟩ l=some (R l)):
 ∀(d:Nat) (l:List Int) (i:Nat),m-i<=d->i<m->yG f m l->l.Perm l0->aH (sB (tS k f m n1 i0 L0) c1) (tJ k f m n0 i (l++[x]) p q)=some (.done (R (zF f k.clock.now l i))):=by
 intro d
 induction d with
 |zero=>intro l i h hi;omega
 |succ d ih=>
  intro l i h hi hl pm;have hm:=hl.len;have m1:=hl.small;have e:aA .i64 (aA .i64 (2*(i:Int))+1)=((2*i+1:Nat):Int):=by
   rw [show aA .i64 (2*(i:Int))=2*(i:Int) from jW ⟨by omega,by omega⟩,jW ⟨by omega,by omega⟩];omega
  have g:=aPP (k:=k) (n0:=n0) (x:=x) ok hc h0 (n1:=n1) (i0:=i0) hl hi (p:=p) (q:=q) (hR l pm);have st:sB (tS k f m n1 i0 L0) c1 (tJ k f m n0 i (l++[x]) p q)=some (if fB f k.clock.now l i=i then .done (.done (R l)) else .next (tJ k f m n0 (fB f k.clock.now l i) (iI l i (fB f k.clock.now l i)++[x]) p q)):=by
   unfold sB;rw [show (tJ k f m n0 i (l++[x]) p q).1=(i:Int) from rfl,e];exact g
  by_cases hk:fB f k.clock.now l i=i
  · rw [if_pos hk] at st
    rw [oU hk];exact aI st
  · rw [if_neg hk] at st
    have kc:=A1 f k.clock.now l i;have sp:=pI (l:=l) (i:=i) (j:=fB f k.clock.now l i) (by omega) (by omega)
    rw [aV st,GN hk];exact ih _ _ (by omega) (by omega) ⟨by rw [kX];exact hm,hl.small,fun y hy=>hl.hp y (sp.mem_iff.1 hy),sp.nodup_iff.2 hl.nd⟩ (sp.trans pm)
theorem aPS (ok:CQ k f) {c0:List Int} (hc:c0.length=m+1) {c1:Nat} {c2:Int} {R:List Int->dH×Int} {l0:List Int} (hR: ∀l:List Int,l.Perm l0->cD k.clock ⟨f⟩ l=some (R l)):
 ∀(i:Nat) (l:List Int),i<m->yG f m l->l.Perm l0->aH (nZ c0 (c1:Int) c2) (tS k f m n0 i (l++[x]))=some (R (zF f k.clock.now (qI f k.clock.now i l) (zE f k.clock.now i l))):=by
 intro i
 induction i using Nat.strongRecOn with
 |ind i ih=>
  intro l hi hl pm;have hm:=hl.len;have m1:=hl.small;have lx:(l++[x]).length=m+1:=by rw [List.length_append,List.length_singleton];omega
  have sl:(bJ c0 (c1:Int) c2).length=m+1:=by rw [fX,List.length_set];exact hc
  cases i with
  |zero=>
   have g:=aPQ (n0:=n0) (x:=x) ok hc lx (n1:=n0) (i0:=0) hR m l 0 (by omega) hi hl pm
   unfold qI zE;refine aI ?_;unfold nZ;rw [show (tS k f m n0 0 (l++[x])).1=0 from rfl,aL (by omega),cond_false]
   rw [show (tS k f m n0 0 (l++[x])).2.2.2.2.2.2.2.2.2.2.2.2.2.2.2.2.2.1=l++[x] from rfl,lx,sl,beq_self_eq_true,cond_true];exact g
  |succ i=>
   have hu:=XD (i:=i+1) (by omega) (by omega)
   rw [show (i+1-1) / 2=i / 2 from rfl] at hu;have pi:=hl.hp _ (bE (show i+1<l.length by omega))
   have pj:=hl.hp _ (bE (show i / 2<l.length by omega))
   have ne:l[i+1]!≠l[i / 2]!:=fun h=>cP.1 hl.nd (i / 2) (i+1) (by omega) (by omega) h.symm
   have a:=U9 ok.fok (t:=(k.clock.now.1,k.clock.now.2)) ok.clk.nowv ok.clk.now64 pi pj ne;have g1:=aB l (i+1) (by omega)
   have g2:=aB l (i / 2) (by omega)
   have sa:(l++[x]).set (i+1) l[i / 2]! =l.set (i+1) l[i / 2]!++[x]:=List.set_append_left _ _ (by omega)
   have sb:(l.set (i+1) l[i / 2]!++[x]).set (i / 2) l[i+1]! =iI l (i+1) (i / 2)++[x]:=List.set_append_left _ _ (by rw [List.length_set];omega)
   have t1:(l.set (i+1) l[i / 2]!++[x]).take m=l.set (i+1) l[i / 2]!:=tk (by rw [List.length_set];exact hm)
   have g3:=aB (l.set (i+1) l[i / 2]!) (i / 2) (by rw [List.length_set];omega)
   unfold qI zE
   by_cases c:bQ (bH f l[i+1]!) (bH f l[i / 2]!) k.clock.now
   · rw [if_pos c,if_pos c]
     rw [show decide (bQ (bH f l[i+1]!) (bH f l[i / 2]!) (k.clock.now.1,k.clock.now.2))=true from aN c] at a;have sp:=pI (l:=l) (i:=i+1) (j:=i / 2) (by omega) (by omega)
     rw [aV (y:=tS k f m n0 (i / 2) (iI l (i+1) (i / 2)++[x])) (by
      unfold nZ tS;simp only [aN (show (0:Int)<((i+1:Nat):Int) by omega),cond_true,tk hm,g1,g2,aC,hu,fO ok.fok pi,fO ok.fok pj,a,beq_self_eq_true,fX,sa,sb,t1,g3])]
     exact ih (i / 2) (by omega) _ (by omega) ⟨by rw [kX];exact hm,hl.small,fun y hy=>hl.hp y (sp.mem_iff.1 hy),sp.nodup_iff.2 hl.nd⟩ (sp.trans pm)
   · rw [if_neg c,if_neg c]
     rw [show decide (bQ (bH f l[i+1]!) (bH f l[i / 2]!) (k.clock.now.1,k.clock.now.2))=false from aL c] at a;have g:=aPR (n0:=n0) (x:=x) ok hc lx (n1:=n0) (i0:=i+1) (p:=bH f l[i+1]!) (q:=bH f l[i / 2]!) hR m l (i+1) (by omega) hi hl pm
     refine aI ?_;unfold nZ
     conv=>lhs;unfold tS
     simp only [aN (show (0:Int)<((i+1:Nat):Int) by omega),cond_true,tk hm,g1,g2,aC,hu,fO ok.fok pi,fO ok.fok pj,a,beq_self_eq_true,cond_false,lx,sl]
     exact g
end
end Go.Proofs.YtmlghnibpjlchaaGreat
namespace Go.Proofs.YtmlghnibpjlchaaGreat
open Go.Vm Classical
theorem aBt {f:List Pt} (h:kV f):Up f:=sQ.2 fun _ _ hij hj=>jE h hij hj
theorem Y0 {k:dH} (n:aBk k.clock) (sh:D7 k.clock) (hl:k.heap.length<=1000) (id:Int): ∃R:dH×Int,oR k id=some R/\oT k id=some R/\S5 R:=by
 have fit:wD k.clock:=⟨n.now,⟨sh.s3,sh.h,sh.w,n.at64⟩,sh.d⟩;have bad: ∀e:Int,S5 (⟨dC,[]⟩,e):=fun e=>⟨D8,Nat.zero_le _⟩
 have c1:=L9 fit hl;have c2:=MA fit hl
 by_cases ok:L8 k
 case neg=>
  rw [if_neg ok] at c1 c2;refine ⟨(⟨dC,[]⟩,8),?_,?_,bad 8⟩
  · unfold oR;rw [c1];rfl
  · unfold oT;rw [c2];rfl
 rw [if_pos ok] at c1 c2;have fok:=ok.clk.fld;have f1:=fok.1
 by_cases hid:kZ k.clock.field.points id
 case neg=>
  obtain ⟨t1,t2⟩:=PP fok hid;have t1:mS k.clock.field id=some (⟨[]⟩,6):=t1;have t2:mY k.clock.field id=some (⟨[]⟩,6):=t2;refine ⟨(⟨dC,[]⟩,6),?_,?_,bad 6⟩
  · unfold oR;rw [c1,aC,cI rfl,cond_false,t1];rfl
  · unfold oT;rw [c2,aC,cI rfl,cond_false,t2];rfl
 have hidm:=ok.perm.mem_iff.1 (xM.2 hid);obtain ⟨q,hq,rfl⟩:=hid;obtain ⟨t1,t2⟩:=U8 fok hq;have t1:mS k.clock.field (k.clock.field.points[q]!).1=some (⟨k.clock.field.points.eraseIdx q⟩,0):=t1;have t2:mY k.clock.field (k.clock.field.points[q]!).1=some (⟨k.clock.field.points.eraseIdx q⟩,0):=t2;have fok':=aBs fok q
 have fl:(k.clock.field.points.eraseIdx q).length=k.clock.field.points.length-1:=JE hq;have hn:k.heap.length=k.clock.field.points.length:=by rw [<- ok.perm.length_eq];exact List.length_map ..
 have nd:=ok.perm.nodup_iff.1 (rQ fok.2.2);obtain ⟨a,a1,a2,a3,a4⟩:=NV (l:=k.heap) (by omega) hidm
 have lst:k.heap.length-1<k.heap.length:=by omega
 have ew:aA .i64 ((k.heap.length:Int) -1)=((k.heap.length-1:Nat):Int):=uU (by omega) (by omega)
 have ga:=aB k.heap a a1;have gl:=aB k.heap (k.heap.length-1) lst;generalize hL:k.heap.set a k.heap[k.heap.length-1]! =L;have Ll:L.length=k.heap.length:=by rw [<- hL,List.length_set]
 generalize hm:k.heap.length-1=m at*;have em:L=L.take m++[L[m]!]:=by
  have:=R2 (l:=L) (i:=m) (by omega)
  rw [List.drop_of_length_le (by omega)] at this
  exact this
 have ll:(L.take m).length=m:=by rw [List.length_take];omega
 have ps:(L.take m++[(k.clock.field.points[q]!).1]).Perm k.heap:=by
  have e:iI k.heap a m=L.take m++[(k.clock.field.points[q]!).1]:=by
   unfold iI;rw [hL,a2,List.set_eq_take_append_cons_drop,if_pos (by omega),List.drop_of_length_le (by omega)]
  rw [<- e];exact pI a1 (by omega)
 have pm:(wE (k.clock.field.points.eraseIdx q)).Perm (L.take m):=by
  refine rO (rQ fok'.2.2) (fun y hy=>?_) (by rw [ll];show m<=(List.map _ _).length;rw [List.length_map];omega)
  obtain ⟨p,hp,rfl⟩:=List.mem_map.1 hy;obtain ⟨h1,h2⟩:=uV (aBt fok.2.2) hq hp
  have:=ps.mem_iff.2 (ok.perm.mem_iff.1 (List.mem_map.2 ⟨p,h1,rfl⟩))
  rcases List.mem_append.1 this with h|h
  · exact h
  · exact absurd (List.mem_singleton.1 h) h2
 have lo:yG (k.clock.field.points.eraseIdx q) m (L.take m):=⟨ll,by omega,fun y hy=>xM.1 (pm.mem_iff.2 hy),pm.nodup_iff.1 (rQ fok'.2.2)⟩
 have tok:CQ k (k.clock.field.points.eraseIdx q):=⟨ok.clk,fok'⟩
 let R:List Int->dH×Int:=fun l=>if h:(wE (k.clock.field.points.eraseIdx q)).Perm l then (qJ ok.clk fok' h).choose else (⟨dC,[]⟩,0)
 have hR: ∀l:List Int,l.Perm (L.take m)->cD k.clock ⟨k.clock.field.points.eraseIdx q⟩ l=some (R l)/\oS k.clock ⟨k.clock.field.points.eraseIdx q⟩ l=some (R l)/\S5 (R l):=by
  intro l hl;have h:=pm.trans hl.symm
  show _=some (if h:(wE (k.clock.field.points.eraseIdx q)).Perm l then (qJ ok.clk fok' h).choose else (⟨dC,[]⟩,0))/\_=some (if h:(wE (k.clock.field.points.eraseIdx q)).Perm l then (qJ ok.clk fok' h).choose else (⟨dC,[]⟩,0))/\S5 (if h:(wE (k.clock.field.points.eraseIdx q)).Perm l then (qJ ok.clk fok' h).choose else (⟨dC,[]⟩,0))
  rw [dif_pos h];exact (qJ ok.clk fok' h).choose_spec
 have s1:gF L 0 (m:Int)=some (L.take m):=kW L m (by omega)
 have s2:gF k.heap 0 (m:Int)=some (k.heap.take m):=kW k.heap m (by omega)
 have cl:bO k.heap=some k.heap:=aW (by omega)
 have cl2:bO (k.heap.take m)=some (k.heap.take m):=aW (by rw [List.length_take];omega)
 by_cases ha:a<m
 · have go:=aPS (k:=k) (n0:=k.heap.length) (x:=L[m]!) tok (c0:=k.heap) (c1:=a) (c2:=k.heap[m]!) (by omega) (R:=R) (l0:=L.take m) (fun l hl=>(hR l hl).1) a (L.take m) ha lo (List.Perm.refl _)
   rw [<- em] at go;have pr:=MB (k.clock.field.points.eraseIdx q) k.clock.now a (L.take m) (by omega)
   have ri:=(S3 (k.clock.field.points.eraseIdx q) k.clock.now a (L.take m) (by omega)).1
   have pk:=(U7 (k.clock.field.points.eraseIdx q) k.clock.now _ (qI (k.clock.field.points.eraseIdx q) k.clock.now a (L.take m)) (zE (k.clock.field.points.eraseIdx q) k.clock.now a (L.take m)) (Nat.le_refl _) (by rw [pr.length_eq];exact ri)).trans pr
   refine ⟨_,?_,?_,(hR _ pk).2.2⟩
   · unfold oR
     rw [c1,aC,cI rfl,cond_false,t1,aC,cI rfl,cond_false,cl,aC,a3,aC];simp only [aE,ew,gl,aC,ga,fX,hL,s1,aN (show (a:Int)<(m:Int) by omega),cond_true,beq_self_eq_true]
     rw [show ((m:Nat):Int).toNat=m from Int.toNat_natCast m,Ll];exact go
   · have sx:=YZ fok' (t:=k.clock.now) ok.clk.now64 lo.hp lo.nd (i:=a) (by omega) (by omega)
     have tkL:(k.heap.take m).set a k.heap[m]! =L.take m:=by rw [<- hL,List.take_set]
     have gt:=aB (k.heap.take m) a (by rw [List.length_take];omega)
     unfold oT;rw [c2,aC,cI rfl,cond_false,t2,aC,cI rfl,cond_false,a4,aC];simp only [aE,ew,s2,aC,cl2,aN (show (a:Int)<(m:Int) by omega),cond_true,gl,gt,fX,tkL,sx,(hR _ pk).2.1]
 · have tkL:k.heap.take m=L.take m:=by rw [<- hL,List.take_set,List.set_eq_of_length_le (by rw [List.length_take];omega)]
   refine ⟨_,?_,?_,(hR _ (List.Perm.refl _)).2.2⟩
   · unfold oR
     rw [c1,aC,cI rfl,cond_false,t1,aC,cI rfl,cond_false,cl,aC,a3,aC];simp only [aE,ew,gl,aC,ga,fX,hL,s1,aL (show¬(a:Int)<(m:Int) by omega),cond_false]
     rw [show ((m:Nat):Int).toNat=m from Int.toNat_natCast m,(hR _ (List.Perm.refl _)).1,aC]
   · unfold oT
     rw [c2,aC,cI rfl,cond_false,t2,aC,cI rfl,cond_false,a4,aC];rw [tkL] at s2 cl2;simp only [aE,ew,s2,aC,cl2,aL (show¬(a:Int)<(m:Int) by omega),cond_false,(hR _ (List.Perm.refl _)).2.1]
theorem BH (k:dH) (id:Int) (n:aBk k.clock):rI k id=some true:=by
 unfold rI;rcases U5 k with e|⟨e,sh,hl⟩
 · rw [e];rfl
 rw [e,aC,cond_false,YY sh (by omega),aC]
 obtain ⟨R,r1,r2,r3⟩:=Y0 n sh (by omega) id
 rw [r1,aC,r2,aC,NU r3.c (by have:=r3.h;omega),aC,cond_true,fZ rfl,cond_true,NU sh (by omega),aC]
end Go.Proofs.YtmlghnibpjlchaaGreat
