/- Plain laws (4). -/
import Derived.Test.YtfejhjllooomlaaGreatBQM3
import Derived.Test.YtfejhjllooomlaaGreatBQS2
import Derived.Test.YtfejhjllooomlaaGreatBVm3
namespace Go.Proofs.YtfejhjllooomlaaGreat
open Go.Vm Classical
theorem WK {f:List Pt} (fok:bS f) {l:List Int} (pm:(oT f).Perm l):KK f (eD l):=by
 have nd:=pm.nodup_iff.1 (wC fok.2.2);have f1:=fok.1;have ln:l.length=f.length:=by rw [<- pm.length_eq];exact List.length_map ..
 have hp: ∀e∈eD l,kI f e:=fun e he=>⟨vR.1 (pm.mem_iff.2 (I2 he).1),vR.1 (pm.mem_iff.2 (I2 he).2)⟩
 refine ⟨by rw [nW];omega,fun e he=>?_,hp⟩
 obtain ⟨⟨p1,p2⟩,q1,q2⟩:=And.intro (fI fok (hp e he).1) (fI fok (hp e he).2);have ne:=aCL nd he;unfold gN at p1 q1;unfold fU;omega
def kK (l:List Int) (i j:Nat):List Int:=(l.set i l[j]!).set j l[i]!
theorem qD {l:List Int} {i j:Nat} (hi:i<l.length) (hj:j<l.length):(kK l i j).Perm l:=by
 unfold kK;rw [getElem!_pos l i hi,getElem!_pos l j hj];exact List.set_set_perm hi hj
theorem aCO (l:List Int) (hl:l.length<=1000000):tG l l=some true:=by
 unfold tG;rw [bP rfl,cond_false]
 have:=cV (body:=oE) (fun i=>(l,l,(i:Int))) l.length (fun i hi=>by
  unfold oE;simp only [aE,aO (show (i:Int)<(l.length:Int) by omega),cond_true,aB l i hi,aC,bP rfl,cond_false,bB (show i<1000000000 by omega)])
 rw [show (l,l,(0:Int))=(l,l,((0:Nat):Int)) from rfl,this];refine aI ?_;unfold oE;simp only [aE,aL (show¬(l.length:Int)<(l.length:Int) by omega),cond_false]
theorem I4 {k:cC} (sh:C9 k.clock) (hl:k.heap.length<=1000000):sD k k=some true:=by
 unfold sD;rw [WI sh,aC,cond_true,aCO _ hl,aC]
theorem WL (k:cC):tZ k=some true\/(tZ k=some false/\C9 k.clock/\k.heap.length<=70):=by
 unfold tZ
 rcases T8 k.clock with e|⟨e,sh⟩
 · rw [e];exact .inl rfl
 rw [e,aC,cond_false,aE]
 by_cases h:70<k.heap.length
 · rw [aO (by omega)];exact .inl rfl
 · rw [aL (by omega)];exact .inr ⟨rfl,sh,by omega⟩
end Go.Proofs.YtfejhjllooomlaaGreat
namespace Go.Proofs.YtfejhjllooomlaaGreat
open Go.Vm Classical
theorem HC {f:List Pt} (fok:bS f) {t:Int×Int} (r64:rI t) {a b:Int} (ha:kH f a) (hb:kH f b):lR ⟨f⟩ t a b=some (decide (bQ (bG f a) (bG f b) t)):=by
 obtain ⟨j,j1,j2,j3⟩:=BI fok ha;obtain ⟨k,k1,k2,k3⟩:=BI fok hb;unfold lR;simp only [j2,k2,aC,aB f j j1,aB f k k1,j3,k3,MK (fI fok ha).1 (fI fok hb).1 r64]
theorem QZ {i:Nat} (hi:i<1000000000) (h0:0<i):aA .i64 (Int.tdiv (aA .i64 ((i:Int) -1)) 2)=(((i-1) / 2:Nat):Int):=by
 rw [show aA .i64 ((i:Int) -1)=((i-1:Nat):Int) from yE hi h0,Int.tdiv_eq_ediv_of_nonneg (by omega),lI ⟨by omega,by omega⟩];omega
noncomputable def oJ (f:List Pt) (t:Int×Int):Nat->List Int->List Int
 |0,l=>l
 |i+1,l=>if bQ (bG f l[i+1]!) (bG f l[i / 2]!) t then oJ f t (i / 2) (kK l (i+1) (i / 2)) else l
termination_by i=>i
decreasing_by omega
theorem FX (f:List Pt) (t:Int×Int): ∀(i:Nat) (l:List Int),i<l.length->(oJ f t i l).Perm l:=by
 intro i
 induction i using Nat.strongRecOn with
 |ind i ih=>
  intro l hi;cases i with
  |zero=>unfold oJ;exact List.Perm.refl _
  |succ i=>
   unfold oJ;split
   · have sp:=qD (l:=l) hi (show i / 2<l.length by omega)
     exact (ih (i / 2) (by omega) _ (by rw [sp.length_eq];omega)).trans sp
   · exact List.Perm.refl _
theorem aCP {f:List Pt} (fok:bS f) {t:Int×Int} (r64:rI t): ∀(i:Nat) (l:List Int),(∀x∈l,kH f x)->i<l.length->l.length<=1000->
 aJ nR ((i:Int),f,t.1,t.2,l)=some (oJ f t i l):=by
 intro i
 induction i using Nat.strongRecOn with
 |ind i ih=>
  intro l hp hi hl;cases i with
  |zero=>
   unfold oJ;refine aI ?_;unfold nR;simp only [aL (show¬(0:Int)<((0:Nat):Int) by omega),cond_false]
  |succ i=>
   have hu:=QZ (i:=i+1) (by omega) (by omega)
   rw [show (i+1-1) / 2=i / 2 from rfl] at hu;have hj:i / 2<l.length:=by omega
   have g1:=aB l (i+1) hi;have g2:=aB l (i / 2) hj;have g3:=aB (l.set (i+1) l[i / 2]!) (i / 2) (by rw [List.length_set];exact hj)
   have a2:=HC fok r64 (hp _ (bD hi)) (hp _ (bD hj));have sp:=qD (l:=l) hi hj;have sl:(kK l (i+1) (i / 2)).length=l.length:=sp.length_eq;unfold oJ
   by_cases c:bQ (bG f l[i+1]!) (bG f l[i / 2]!) t
   · rw [if_pos c]
     rw [aO c] at a2;rw [aV (y:=(((i / 2:Nat):Int),f,t.1,t.2,kK l (i+1) (i / 2))) (by
      unfold nR;simp only [aO (show (0:Int)<((i+1:Nat):Int) by omega),cond_true,g1,aC,hu,g2,a2,gM,g3]
      rfl)]
     exact ih (i / 2) (by omega) _ (fun x hx=>hp x (sp.mem_iff.1 hx)) (by omega) (by omega)
   · rw [if_neg c]
     rw [aL c] at a2;refine aI ?_;unfold nR;simp only [aO (show (0:Int)<((i+1:Nat):Int) by omega),cond_true,g1,aC,hu,g2,a2,cond_false]
theorem UC {f:List Pt} (fok:bS f) {t:Int×Int} (r64:rI t) {i:Nat} {l:List Int} (hp: ∀x∈l,kH f x) (hi:i<l.length) (hl:l.length<=1000):pY ⟨f⟩ t l (i:Int)=some (oJ f t i l):=by
 unfold pY;rw [aX (by omega),aC]
 exact aCP fok r64 i l hp hi hl
end Go.Proofs.YtfejhjllooomlaaGreat
namespace Go.Proofs.YtfejhjllooomlaaGreat
open Go.Vm Classical
theorem Y0 (p q:Pt) (t:Int×Int):ON p q t=(p.2.1*t.2+p.2.2*t.1) - (q.2.1*t.2+q.2.2*t.1):=by
 rw [aJa,Int.sub_mul,Int.sub_mul];omega
theorem JV {p q r:Pt} {t:Int×Int} (h1:bQ p q t) (h2:bQ q r t):bQ p r t:=by
 unfold bQ at*;rw [Y0] at*;generalize p.2.1*t.2+p.2.2*t.1=a at*;generalize q.2.1*t.2+q.2.2*t.1=b at*;generalize r.2.1*t.2+r.2.2*t.1=c at*;omega
theorem UD {p q:Pt} (t:Int×Int) (h:p.1≠q.1) (hn: ¬bQ p q t):bQ q p t:=by
 unfold bQ at*;rw [Y0] at*;generalize p.2.1*t.2+p.2.2*t.1=a at*;generalize q.2.1*t.2+q.2.2*t.1=b at*;omega
theorem jR (l:List Int) (i j:Nat):(kK l i j).length=l.length:=by
 unfold kK;rw [List.length_set,List.length_set]
theorem WM (l:List Int) {i j:Nat} (hi:i<l.length) (hj:j<l.length):(kK l i j)[j]! =l[i]!:=by
 unfold kK;rw [bE,if_pos ⟨rfl,by rw [List.length_set];exact hj⟩]
noncomputable def zZ (f:List Pt) (t:Int×Int):Nat->List Int->Nat
 |0,_=>0
 |i+1,l=>if bQ (bG f l[i+1]!) (bG f l[i / 2]!) t then zZ f t (i / 2) (kK l (i+1) (i / 2)) else i+1
termination_by i=>i
decreasing_by omega
theorem UE (f:List Pt) (t:Int×Int): ∀(i:Nat) (l:List Int),i<l.length->zZ f t i l<l.length/\(oJ f t i l)[zZ f t i l]! =l[i]!:=by
 intro i
 induction i using Nat.strongRecOn with
 |ind i ih=>
  intro l hi;cases i with
  |zero=>unfold zZ oJ;exact ⟨hi,rfl⟩
  |succ i=>
   unfold zZ oJ;split
   · have hj:i / 2<l.length:=by omega
     obtain ⟨h1,h2⟩:=ih (i / 2) (by omega) (kK l (i+1) (i / 2)) (by rw [jR];exact hj)
     rw [jR] at h1;exact ⟨h1,by rw [h2,WM l hi hj]⟩
   · exact ⟨hi,rfl⟩
noncomputable def mX (f:List Pt) (t:Int×Int) (l:List Int) (i:Nat):Nat:=if 2*i+1<l.length/\bQ (bG f l[2*i+1]!) (bG f l[i]!) t then 2*i+1 else i
noncomputable def fM (f:List Pt) (t:Int×Int) (l:List Int) (i:Nat):Nat:=if 2*i+2<l.length/\bQ (bG f l[2*i+2]!) (bG f l[mX f t l i]!) t then 2*i+2 else mX f t l i
theorem sJ (f:List Pt) (t:Int×Int) (l:List Int) (i:Nat):mX f t l i=i\/(mX f t l i=2*i+1/\2*i+1<l.length):=by
 unfold mX;split
 · rename_i h;exact .inr ⟨rfl,h.1⟩
 · exact .inl rfl
theorem BL (f:List Pt) (t:Int×Int) (l:List Int) (i:Nat):fM f t l i=i\/(i<fM f t l i/\fM f t l i<l.length):=by
 unfold fM;split
 · rename_i h;exact .inr ⟨by omega,h.1⟩
 · rcases sJ f t l i with h|⟨h,k⟩
   · exact .inl h
   · exact .inr (by omega)
noncomputable def AA (f:List Pt) (t:Int×Int) (l:List Int) (i:Nat):List Int:=
 if h:i<fM f t l i/\fM f t l i<l.length then AA f t (kK l i (fM f t l i)) (fM f t l i) else l
termination_by l.length-i
decreasing_by rw [jR];omega
theorem pK {f:List Pt} {t:Int×Int} {l:List Int} {i:Nat} (h:fM f t l i=i):AA f t l i=l:=by
 unfold AA;rw [dif_neg (by omega)]
theorem HD {f:List Pt} {t:Int×Int} {l:List Int} {i:Nat} (h:fM f t l i≠i):AA f t l i=AA f t (kK l i (fM f t l i)) (fM f t l i):=by
 have:=BL f t l i
 conv=>lhs;unfold AA
 rw [dif_pos (by omega)]
theorem WN (f:List Pt) (t:Int×Int): ∀(d:Nat) (l:List Int) (i:Nat),l.length-i<=d->i<l.length->(AA f t l i).Perm l:=by
 intro d
 induction d with
 |zero=>intro l i h hi;omega
 |succ d ih=>
  intro l i h hi
  by_cases e:fM f t l i=i
  · rw [pK e]
  · have:=BL f t l i
    rw [HD e];exact (ih _ _ (by rw [jR];omega) (by rw [jR];omega)).trans (qD hi (by omega))
theorem aJe {f:List Pt} (fok:bS f) {t:Int×Int} (r64:rI t): ∀(d:Nat) (l:List Int) (i:Nat),l.length-i<=d->i<l.length->l.length<=1000->(∀x∈l,kH f x)->l.Nodup->aJ fG ((i:Int),f,t.1,t.2,l)=some (AA f t l i):=by
 intro d
 induction d with
 |zero=>intro l i h hi;omega
 |succ d ih=>
  intro l i h hi hl hp nd;have e1:aA .i64 (aA .i64 (2*(i:Int))+1)=((2*i+1:Nat):Int):=by
   rw [show aA .i64 (2*(i:Int))=2*(i:Int) from lI ⟨by omega,by omega⟩,lI ⟨by omega,by omega⟩];omega
  have e2:aA .i64 (((2*i+1:Nat):Int)+1)=((2*i+2:Nat):Int):=bB (n:=2*i+1) (by omega)
  have gi:=aB l i hi;have hpi:=hp _ (bD hi);have go: ∀j,i<j->j<l.length->bQ (bG f l[j]!) (bG f l[i]!) t->fM f t l i=j->aJ fG ((j:Int),f,t.1,t.2,kK l i j)=some (AA f t l i):=by
   intro j hij hj _ hk;have sp:=qD (l:=l) hi hj;rw [HD (by omega),hk]
   exact ih (kK l i j) j (by rw [jR];omega) (by rw [jR];exact hj) (by rw [jR];exact hl) (fun x hx=>hp x (sp.mem_iff.1 hx)) (sp.nodup_iff.2 nd)
  by_cases h1:2*i+1<l.length
  case neg=>
   have kA:mX f t l i=i:=by unfold mX;rw [if_neg (fun h=>h1 h.1)]
   have kG:fM f t l i=i:=by unfold fM;rw [if_neg (fun h=>h1 (by omega)),kA]
   rw [pK kG];refine aI ?_;unfold fG;simp only [aE,e1,aL (show¬((2*i+1:Nat):Int)<(l.length:Int) by omega),cond_false]
  have g1:=aB l (2*i+1) h1;have hp1:=hp _ (bD h1);have a1:=HC fok (t:=(t.1,t.2)) r64 hp1 hpi;have s1:=aB (l.set i l[2*i+1]!) (2*i+1) (by rw [List.length_set];exact h1)
  by_cases h2:2*i+2<l.length
  · have g2:=aB l (2*i+2) h2
    have hp2:=hp _ (bD h2);have a2:=HC fok (t:=(t.1,t.2)) r64 hp2 hp1;have a3:=HC fok (t:=(t.1,t.2)) r64 hp2 hpi;have s2:=aB (l.set i l[2*i+2]!) (2*i+2) (by rw [List.length_set];exact h2)
    have id1:=(fI fok hp1).2;have id2:=(fI fok hp2).2;have ne:l[2*i+1]!≠l[2*i+2]!:=cR.1 nd (2*i+1) (2*i+2) (by omega) h2
    by_cases c2:bQ (bG f l[2*i+2]!) (bG f l[2*i+1]!) t
    · rw [show decide (bQ (bG f l[2*i+2]!) (bG f l[2*i+1]!) (t.1,t.2))=true from aO c2] at a2
      by_cases c3:bQ (bG f l[2*i+2]!) (bG f l[i]!) t
      · rw [show decide (bQ (bG f l[2*i+2]!) (bG f l[i]!) (t.1,t.2))=true from aO c3] at a3
        have kG:fM f t l i=2*i+2:=by
         unfold fM;refine if_pos ⟨h2,?_⟩;rcases sJ f t l i with e|⟨e,_⟩
         · rw [e];exact c3
         · rw [e];exact c2
        rw [aV (y:=(((2*i+2:Nat):Int),f,t.1,t.2,kK l i (2*i+2))) (by
         unfold fG;simp only [aE,e1,e2,aO (show ((2*i+1:Nat):Int)<(l.length:Int) by omega),aO (show ((2*i+2:Nat):Int)<(l.length:Int) by omega),cond_true,g1,g2,gi,aC,a2,a3,Bool.not_true,cond_false,gM,s2]
         rfl)]
        exact go (2*i+2) (by omega) h2 c3 kG
      · rw [show decide (bQ (bG f l[2*i+2]!) (bG f l[i]!) (t.1,t.2))=false from aL c3] at a3
        have nA: ¬bQ (bG f l[2*i+1]!) (bG f l[i]!) t:=fun h=>c3 (JV c2 h)
        have kA:mX f t l i=i:=by unfold mX;rw [if_neg (fun h=>nA h.2)]
        have kG:fM f t l i=i:=by unfold fM;rw [kA,if_neg (fun h=>c3 h.2)]
        rw [pK kG];refine aI ?_;unfold fG;simp only [aE,e1,e2,aO (show ((2*i+1:Nat):Int)<(l.length:Int) by omega),aO (show ((2*i+2:Nat):Int)<(l.length:Int) by omega),cond_true,g1,g2,gi,aC,a2,a3,Bool.not_false]
    · rw [show decide (bQ (bG f l[2*i+2]!) (bG f l[2*i+1]!) (t.1,t.2))=false from aL c2] at a2
      have c2':bQ (bG f l[2*i+1]!) (bG f l[2*i+2]!) t:=UD t (by rw [id1,id2];exact fun h=>ne h.symm) c2
      by_cases c1:bQ (bG f l[2*i+1]!) (bG f l[i]!) t
      · rw [show decide (bQ (bG f l[2*i+1]!) (bG f l[i]!) (t.1,t.2))=true from aO c1] at a1
        have kA:mX f t l i=2*i+1:=by unfold mX;rw [if_pos ⟨h1,c1⟩]
        have kG:fM f t l i=2*i+1:=by unfold fM;rw [kA,if_neg (fun h=>c2 h.2)]
        rw [aV (y:=(((2*i+1:Nat):Int),f,t.1,t.2,kK l i (2*i+1))) (by
         unfold fG;simp only [aE,e1,e2,aO (show ((2*i+1:Nat):Int)<(l.length:Int) by omega),aO (show ((2*i+2:Nat):Int)<(l.length:Int) by omega),cond_true,g1,g2,gi,aC,a2,a1,Bool.not_true,cond_false,gM,s1]
         rfl)]
        exact go (2*i+1) (by omega) h1 c1 kG
      · rw [show decide (bQ (bG f l[2*i+1]!) (bG f l[i]!) (t.1,t.2))=false from aL c1] at a1
        have kA:mX f t l i=i:=by unfold mX;rw [if_neg (fun h=>c1 h.2)]
        have kG:fM f t l i=i:=by unfold fM;rw [kA,if_neg (fun h=>c1 (JV c2' h.2))]
        rw [pK kG];refine aI ?_;unfold fG;simp only [aE,e1,e2,aO (show ((2*i+1:Nat):Int)<(l.length:Int) by omega),aO (show ((2*i+2:Nat):Int)<(l.length:Int) by omega),cond_true,g1,g2,gi,aC,a2,a1,Bool.not_false,cond_false]
  · by_cases c1:bQ (bG f l[2*i+1]!) (bG f l[i]!) t
    · rw [show decide (bQ (bG f l[2*i+1]!) (bG f l[i]!) (t.1,t.2))=true from aO c1] at a1
      have kA:mX f t l i=2*i+1:=by unfold mX;rw [if_pos ⟨h1,c1⟩]
      have kG:fM f t l i=2*i+1:=by unfold fM;rw [kA,if_neg (fun h=>h2 h.1)]
      rw [aV (y:=(((2*i+1:Nat):Int),f,t.1,t.2,kK l i (2*i+1))) (by
       unfold fG;simp only [aE,e1,e2,aO (show ((2*i+1:Nat):Int)<(l.length:Int) by omega),aL (show¬((2*i+2:Nat):Int)<(l.length:Int) by omega),cond_true,g1,gi,aC,a1,Bool.not_true,cond_false,gM,s1]
       rfl)]
      exact go (2*i+1) (by omega) h1 c1 kG
    · rw [show decide (bQ (bG f l[2*i+1]!) (bG f l[i]!) (t.1,t.2))=false from aL c1] at a1
      have kA:mX f t l i=i:=by unfold mX;rw [if_neg (fun h=>c1 h.2)]
      have kG:fM f t l i=i:=by unfold fM;rw [kA,if_neg (fun h=>h2 h.1)]
      rw [pK kG];refine aI ?_;unfold fG;simp only [aE,e1,e2,aO (show ((2*i+1:Nat):Int)<(l.length:Int) by omega),aL (show¬((2*i+2:Nat):Int)<(l.length:Int) by omega),cond_true,g1,gi,aC,a1,Bool.not_false,cond_false]
end Go.Proofs.YtfejhjllooomlaaGreat
namespace Go.Proofs.YtfejhjllooomlaaGreat
open Go.Vm Classical
theorem UF {f:List Pt} (fok:bS f) {k:Nat} (hk:k<f.length):kB ⟨f⟩ (f[k]!).1=some ((k:Int),0):=by
 have h1:=fok.1;have hc:dS ⟨f⟩=some 0:=by rw [gJ];exact congrArg some (fS.2 fok)
 have bs:=vP f (f[k]!).1 (by omega) (fun i j=>iE fok.2.2)
 unfold kB jH;rw [D9];simp only [hc,aC,show ((0:Int) !=0)=false from rfl,cond_false,bs.1 k hk rfl,Bool.not_true]
theorem NP {f:List Pt} (fok:bS f) {id:Int} (h: ¬kH f id):kB ⟨f⟩ id=some (0,6):=by
 have h1:=fok.1;have hc:dS ⟨f⟩=some 0:=by rw [gJ];exact congrArg some (fS.2 fok)
 have bs:=vP f id (by omega) (fun i j=>iE fok.2.2)
 obtain ⟨m,_,_,_,e⟩:=bs.2 (fun k hk he=>h ⟨k,hk,he⟩)
 unfold kB jH;rw [D9];simp only [hc,aC,show ((0:Int) !=0)=false from rfl,cond_false,e,Bool.not_false,cond_true]
end Go.Proofs.YtfejhjllooomlaaGreat
namespace Go.Proofs.YtfejhjllooomlaaGreat
open Go.Vm Classical
def EC (f:List Pt) (m:Nat) (p:Pt):List Pt:=f.take m++p::f.drop m
structure Y1 (f:List Pt) (p:Pt) (m:Nat):Prop where
 le:m<=f.length
 lo: ∀i,i<m->(f[i]!).1<p.1
 hi: ∀i,m<=i->i<f.length->p.1<(f[i]!).1
theorem UG {f:List Pt} {m:Nat} (h:m<=f.length) (p:Pt):(EC f m p).length=f.length+1:=by
 unfold EC;rw [List.length_append,List.length_cons,List.length_take,List.length_drop];omega
theorem O0 {f:List Pt} {m:Nat} (h:m<=f.length) (p:Pt) (i:Nat):(EC f m p)[i]! =if i<m then f[i]! else if i=m then p else f[i-1]!:=by
 have ht:(f.take m).length=m:=by rw [List.length_take];omega
 unfold EC;simp only [List.getElem!_eq_getElem?_getD]
 by_cases h1:i<m
 · rw [if_pos h1,List.getElem?_append_left (by omega),List.getElem?_take_of_lt h1]
 · rw [if_neg h1,List.getElem?_append_right (by omega),ht]
   by_cases h2:i=m
   · rw [if_pos h2,h2,Nat.sub_self];rfl
   · rw [if_neg h2,show i-m=(i-1-m)+1 by omega,List.getElem?_cons_succ,List.getElem?_drop,show m+(i-1-m)=i-1 by omega]
theorem aJf {f:List Pt} (fok:bS f) {p:Pt} (po:gN p) {m:Nat} (h:Y1 f p m) (hl:f.length<64):bS (EC f m p):=by
 refine ⟨by rw [UG h.le];omega,fun q hq=>?_,fun i hi=>?_⟩
 · rcases List.mem_append.1 hq with hq|hq
   · exact fok.2.1 q (List.mem_of_mem_take hq)
   · rcases List.mem_cons.1 hq with rfl|hq
     · exact po
     · exact fok.2.1 q (List.mem_of_mem_drop hq)
 · rw [UG h.le] at hi
   rw [O0 h.le,O0 h.le];rcases Nat.lt_trichotomy (i+1) m with c|c|c
   · rw [if_pos (by omega),if_pos c];exact iE fok.2.2 (by omega) (by have:=h.le;omega)
   · rw [if_pos (by omega),if_neg (by omega),if_pos c];exact h.lo i (by omega)
   · rw [if_neg (show¬i+1<m by omega),if_neg (show¬i+1=m by omega),Nat.add_sub_cancel]
     by_cases d:i=m
     · rw [if_neg (by omega),if_pos d];exact h.hi i (by omega) (by omega)
     · rw [if_neg (by omega),if_neg d];exact iE fok.2.2 (by omega) (by omega)
theorem WQ {f:List Pt} (fok:bS f) {p:Pt} (h: ¬kH f p.1): ∃m,Y1 f p m/\jH ⟨f⟩ p.1=some ((m:Int),false):=by
 have h1:=fok.1;obtain ⟨m,a,b,c,e⟩:=(vP f p.1 (by omega) (fun i j=>iE fok.2.2)).2 (fun k hk he=>h ⟨k,hk,he⟩)
 refine ⟨m,⟨a,b,c⟩,?_⟩;unfold jH;rw [D9,e];rfl
theorem WR {f:List Pt} (fok:bS f) {id:Int} (h:kH f id): ∃k,k<f.length/\(f[k]!).1=id/\jH ⟨f⟩ id=some ((k:Int),true):=by
 have h1:=fok.1;obtain ⟨k,hk,he⟩:=h;refine ⟨k,hk,he,?_⟩;unfold jH;rw [D9,(vP f id (by omega) (fun i j=>iE fok.2.2)).1 k hk he];rfl
theorem aJg {f:List Pt} (fok:bS f) {p:Pt} {m:Nat} (h:Y1 f p m) (hl:f.length<64):aJ fK (false,0,f,p.1,p.2.1,p.2.2,[])=some (⟨EC f m p⟩,0):=by
 have hle:=h.le;have tl: ∀i,(f.take i).length<=64:=fun i=>by rw [List.length_take];omega
 have k1:=cV (body:=fK) (fun i=>(false,(i:Int),f,p.1,p.2.1,p.2.2,f.take i)) m (fun i hi=>by
  unfold fK;simp only [aE,aO (show (i:Int)<(f.length:Int) by omega),cond_true,Bool.not_false,aB f i (by omega),aC,aL (show¬p.1<(f[i]!).1 from Int.not_lt.2 (Int.le_of_lt (h.lo i hi))),cond_false,
   dN (show (f.take i).length+[f[i]!].length<=1048576 by have:=tl i;simp only [List.length_cons,List.length_nil];omega),bB (show i<1000000000 by omega),hM (show i<f.length by omega)])
 refine (show aJ fK (false,0,f,p.1,p.2.1,p.2.2,[])=_ from k1).trans ?_;have pe:((p.1,p.2.1,p.2.2):Pt)=p:=rfl;rcases Nat.lt_or_ge m f.length with hm|hm
 · have s1:fK (false,(m:Int),f,p.1,p.2.1,p.2.2,f.take m)=some (.next (true,((m+1:Nat):Int),f,p.1,p.2.1,p.2.2,f.take m++[p]++[f[m]!])):=by
    unfold fK;simp only [aE,aO (show (m:Int)<(f.length:Int) by omega),cond_true,Bool.not_false,aB f m hm,aC,aO (h.hi m (Nat.le_refl _) hm),pe,
     dN (show (f.take m).length+[p].length<=1048576 by have:=tl m;simp only [List.length_cons,List.length_nil];omega),
     dN (show (f.take m++[p]).length+[f[m]!].length<=1048576 by have:=tl m;simp only [List.length_append,List.length_cons,List.length_nil];omega),bB (show m<1000000000 by omega)]
   rw [aV s1];have k2:=cV (body:=fK) (fun i=>(true,((m+1+i:Nat):Int),f,p.1,p.2.1,p.2.2,f.take m++[p]++(f.drop m).take (i+1))) (f.length- (m+1)) (fun i hi=>by
    have ed:(f.drop m).take (i+1+1)=(f.drop m).take (i+1)++[f[m+1+i]!]:=by
     rw [hM (show i+1<(f.drop m).length by rw [List.length_drop];omega),sE];congr 3;omega
    unfold fK;simp only [aE,aO (show ((m+1+i:Nat):Int)<(f.length:Int) by omega),cond_true,Bool.not_true,cond_false,aB f (m+1+i) (by omega),aC,
     dN (show (f.take m++[p]++(f.drop m).take (i+1)).length+[f[m+1+i]!].length<=1048576 by have:=tl m;simp only [List.length_append,List.length_take,List.length_drop,List.length_cons,List.length_nil] at this ⊢;omega),bB (show m+1+i<1000000000 by omega),ed]
    rw [List.append_assoc (f.take m++[p]),show m+1+i+1=m+1+(i+1) by omega])
   have e0:(f.drop m).take (0+1)=[f[m]!]:=by
    have:=TF hm
    rw [show f.drop m=f[m]!::f.drop (m+1) by rw [getElem!_pos f m hm,List.getElem_cons_drop]];rfl
   rw [e0] at k2;refine (show aJ fK (true,((m+1:Nat):Int),f,p.1,p.2.1,p.2.2,f.take m++[p]++[f[m]!])=_ from k2).trans (aI ?_);have ef:(f.drop m).take (f.length- (m+1)+1)=f.drop m:=List.take_of_length_le (by rw [List.length_drop];omega)
   rw [ef,show m+1+(f.length- (m+1))=f.length by omega]
   unfold fK EC;simp only [aE,aL (show¬(f.length:Int)<(f.length:Int) by omega),cond_false,Bool.not_true,List.append_assoc,List.singleton_append]
 · obtain rfl:m=f.length:=by omega
   refine aI ?_;unfold fK EC;simp only [aE,aL (show¬(f.length:Int)<(f.length:Int) by omega),cond_false,Bool.not_false,cond_true,pe,List.take_length,
    dN (show f.length+[p].length<=1048576 by simp only [List.length_cons,List.length_nil];omega),aC,List.drop_length]
theorem ND {f:List Pt} (fok:bS f) (p:Pt):
 (∃e:Int,e≠0/\mR ⟨f⟩ p=some (⟨[]⟩,e)/\mT ⟨f⟩ p=some (⟨[]⟩,e))\/
 (∃m,Y1 f p m/\ ¬kH f p.1/\gN p/\f.length<64/\mR ⟨f⟩ p=some (⟨EC f m p⟩,0)/\mT ⟨f⟩ p=some (⟨EC f m p⟩,0)):=by
 have f1:=fok.1;have hc:dS ⟨f⟩=some 0:=by rw [gJ];exact congrArg some (fS.2 fok)
 have hc2:lQ ⟨f⟩=some 0:=by rw [wX];exact congrArg some (fS.2 fok)
 by_cases po:gN p
 case neg=>
  refine .inl ⟨8,by decide,?_,?_⟩
  · unfold mR;rw [hc,aC,bP rfl,cond_false,fL,if_neg po];rfl
  · unfold mT;rw [hc2,aC,bP rfl,cond_false,hJ,if_neg po];rfl
 by_cases hp:kH f p.1
 · obtain ⟨k,hk,he,e⟩:=WR fok hp
   refine .inl ⟨14,by decide,?_,?_⟩
   · unfold mR;rw [hc,aC,bP rfl,cond_false,fL,if_pos po,aC,bP rfl,cond_false,e];rfl
   · unfold mT;rw [hc2,aC,bP rfl,cond_false,hJ,if_pos po,aC,bP rfl,cond_false,IR fok.2.2 (by omega) hk he,aC,aO (show (0:Int)<=(k:Int) by omega)];rfl
 obtain ⟨m,hm,e⟩:=WQ fok hp
 by_cases full:f.length=64
 · refine .inl ⟨18,by decide,?_,?_⟩
   · unfold mR;rw [hc,aC,bP rfl,cond_false,fL,if_pos po,aC,bP rfl,cond_false,e,aC,cond_false]
     simp only [aE,full];rfl
   · unfold mT;rw [hc2,aC,bP rfl,cond_false,hJ,if_pos po,aC,bP rfl,cond_false,I0 fok hp,aC,aL (by decide),cond_false]
     simp only [aE,full];rfl
 · have hl:f.length<64:=by omega
   have hf:(Int.ofNat f.length==64)=false:=by simp only [aE,beq_eq_false_iff_ne];omega
   refine .inr ⟨m,hm,hp,po,hl,?_,?_⟩
   · have hi:DL f (m:Int) [p]=some (EC f m p):=by
      unfold DL;rw [if_pos ⟨by omega,by have:=hm.le;simpa using this,rfl,by omega⟩]
      simp [EC]
     unfold mR;rw [hc,aC,bP rfl,cond_false,fL,if_pos po,aC,bP rfl,cond_false,e,aC,cond_false,hf,cond_false,aX (show f.length<=1048576 by omega),aC,hi,aC]
   · unfold mT
     rw [hc2,aC,bP rfl,cond_false,hJ,if_pos po,aC,bP rfl,cond_false,I0 fok hp,aC,aL (by decide),cond_false,hf,cond_false]
     exact aJg fok hm hl
theorem aOV {f:List Pt} (fok:bS f) {p:Pt} (po:gN p) {k:Nat} (hk:k<f.length) (he:(f[k]!).1=p.1):bS (f.set k p):=by
 refine ⟨by rw [List.length_set];exact fok.1,fun q hq=>?_,fun i hi=>?_⟩
 · rcases List.mem_or_eq_of_mem_set hq with h|rfl
   · exact fok.2.1 q h
   · exact po
 · rw [List.length_set] at hi
   have h:=iE fok.2.2 (show i<i+1 by omega) hi
   have g: ∀j:Nat,((f.set k p)[j]!).1=(f[j]!).1:=fun j=>by
    simp only [List.getElem!_eq_getElem?_getD,List.getElem?_set]
    by_cases c:k=j
    · subst c
      rw [if_pos rfl,if_pos hk];simp only [List.getElem!_eq_getElem?_getD] at he;exact he.symm
    · rw [if_neg c]
   rw [g,g];exact h
theorem HE {f:List Pt} (fok:bS f) (p:Pt):
 (∃e:Int,e≠0/\iS ⟨f⟩ p=some (⟨[]⟩,e)/\iT ⟨f⟩ p=some (⟨[]⟩,e))\/
 (∃k,k<f.length/\(f[k]!).1=p.1/\gN p/\iS ⟨f⟩ p=some (⟨f.set k p⟩,0)/\iT ⟨f⟩ p=some (⟨f.set k p⟩,0)):=by
 have f1:=fok.1;have hc:dS ⟨f⟩=some 0:=by rw [gJ];exact congrArg some (fS.2 fok)
 have hc2:lQ ⟨f⟩=some 0:=by rw [wX];exact congrArg some (fS.2 fok)
 by_cases po:gN p
 case neg=>
  refine .inl ⟨8,by decide,?_,?_⟩
  · unfold iS;rw [hc,aC,bP rfl,cond_false,fL,if_neg po];rfl
  · unfold iT;rw [hc2,aC,bP rfl,cond_false,hJ,if_neg po];rfl
 by_cases hp:kH f p.1
 case neg=>
  refine .inl ⟨6,by decide,?_,?_⟩
  · unfold iS;rw [hc,aC,bP rfl,cond_false,fL,if_pos po,aC,bP rfl,cond_false,NP fok hp];rfl
  · unfold iT;rw [hc2,aC,bP rfl,cond_false,hJ,if_pos po,aC,bP rfl,cond_false,I0 fok hp];rfl
 obtain ⟨k,hk,he⟩:=hp;have pl:=UF fok hk;rw [he] at pl;refine .inr ⟨k,hk,he,po,?_,?_⟩
 · unfold iS
   rw [hc,aC,bP rfl,cond_false,fL,if_pos po,aC,bP rfl,cond_false,pl,aC,bP rfl,cond_false,aX (show f.length<=1048576 by omega),aC,aB f k hk,aC,gM]
 · unfold iT lX
   rw [hc2,aC,bP rfl,cond_false,hJ,if_pos po,aC,bP rfl,cond_false,IR fok.2.2 (by omega) hk he,aC,aL (by omega),cond_false,aX (show f.length<=1048576 by omega),aC,aC,aB f k hk,aC,gM]
end Go.Proofs.YtfejhjllooomlaaGreat
namespace Go.Proofs.YtfejhjllooomlaaGreat
open Go.Vm Classical
noncomputable def oH (f:List Pt) (es:List (Int×Int)):Int:=if¬(∀x∈es,fU x) then 8 else if¬es.Nodup then 14 else if¬(∀x∈es,kI f x) then 6 else 0
def rP (c:aP) (f:List Pt) (es:List (Int×Int)) (i:Nat):=
 (es,es,(es.length:Int),(i:Int),c.now.1,c.now.2,c.field.points,c.certs.next_,c.certs.list,c.agenda.slots.uses,c.agenda.slots.used,c.agenda.slots.free,c.agenda.heap,c.agenda.where_,c.due,f,(0:Int),(0:Int),(0:Int))
theorem NE {c:aP} (ok:bF c) {f:List Pt} (fok:bS f) {es:List (Int×Int)} (hl:es.length<=1000) {r:aP×Int} (hr:oH f es=0->uD c ⟨f⟩ es=some r):
 uE c ⟨f⟩ es=some (if oH f es=0 then r else (dG,oH f es)):=by
 have bd:=ok.bd;have ab:=ok.agd.bd;have sl:=ok.agd.so.fl;have sn:=ok.agd.so.n2;have su:=ok.agd.so.ul;have el:decide ((es.length:Int)<(es.length:Int))=false:=aL (by omega)
 have hc:gZ c=some 0:=by rw [nV ok.fit,if_pos ok]
 have hf:dS ⟨f⟩=some 0:=by rw [gJ];exact congrArg some (fS.2 fok)
 have tw:wO (aP.mk (c.now.1,c.now.2) (Field.mk c.field.points) (aU.mk c.certs.next_ c.certs.list) (aG.mk (aR.mk c.agenda.slots.uses c.agenda.slots.used c.agenda.slots.free) c.agenda.heap c.agenda.where_) c.due)=some c:=by
  unfold wO;simp only [aX (show c.field.points.length<=1048576 by omega),aX (show c.certs.list.length<=1048576 by omega),aX (show c.due.length<=1048576 by omega),aX (show c.agenda.heap.length<=1048576 by omega),aX (show c.agenda.where_.length<=1048576 by omega),
   aX (show c.agenda.slots.uses.length<=1048576 by omega),aX (show c.agenda.slots.used.length<=1048576 by omega),aX (show c.agenda.slots.free.length<=1048576 by omega),aC]
 have k3: ∀e2:aP×Int,aJ eL (rP c f es 0)=some (.done e2)->aJ eM (rP c f es 0)=some (if∀i,i<es.length->fU es[i]! then e2 else (dG,8)):=by
  intro e2 h2;refine FW (body:=eM) (fun i=>rP c f es i) es.length (fun i=>fU es[i]!) (r:=(dG,8)) (e:=e2) (fun i hi=>?_) ?_
  · have e1:decide ((i:Int)<(es.length:Int))=true:=aO (by omega)
    unfold eM rP fU;simp only [e1,cond_true,aB es i hi,aC,bB (show i<1000000000 by omega)]
    generalize es[i]! =x
    by_cases a1:x.1<0
    · rw [aO a1];exact ⟨fun _=>rfl,fun h=>by omega⟩
    rw [aL a1]
    by_cases a2:x.2<0
    · rw [aO a2];exact ⟨fun _=>rfl,fun h=>by omega⟩
    rw [aL a2]
    by_cases a3:65535<x.1
    · rw [aO a3];exact ⟨fun _=>rfl,fun h=>by omega⟩
    rw [aL a3]
    by_cases a4:65535<x.2
    · rw [aO a4];exact ⟨fun _=>rfl,fun h=>by omega⟩
    rw [aL a4]
    by_cases a5:x.1=x.2
    · rw [gH a5];exact ⟨fun _=>rfl,fun h=>absurd a5 h.2.2.2.2⟩
    · rw [fR a5];exact ⟨fun h=>absurd ⟨by omega,by omega,by omega,by omega,a5⟩ h,fun _=>rfl⟩
  · unfold eM rP
    simp only [aE,el,cond_false];exact h2
 have k2: ∀e1:aP×Int,aJ fF (rP c f es 0)=some (.done (.done e1))->aJ eL (rP c f es 0)=some (.done (if∀i,i<es.length->es[i]!∉es.take i then e1 else (dG,14))):=by
  intro e0 h2
  have:=FW (body:=eL) (fun i=>rP c f es i) es.length (fun i=>es[i]!∉es.take i) (r:= .done (dG,14)) (e:= .done e0) (fun i hi=>by
   have e1:decide ((i:Int)<(es.length:Int))=true:=aO (by omega)
   unfold eL rP;simp only [e1,cond_true,aB es i hi,oG es i (by omega),aC,oS _ _ (show (es.take i).length<=1000000 by rw [List.length_take];omega),bB (show i<1000000000 by omega)]
   by_cases h:es[i]!∈es.take i
   · rw [aO h];exact ⟨fun _=>rfl,fun k=>absurd h k⟩
   · rw [aL h];exact ⟨fun k=>absurd h k,fun _=>rfl⟩) (by
   unfold eL rP;simp only [aE,el,cond_false];exact h2)
  refine this.trans ?_
  by_cases hb: ∀i,i<es.length->es[i]!∉es.take i
  · rw [if_pos hb,if_pos hb]
  · rw [if_neg hb,if_neg hb]
 have step1: ∀i,i<es.length->(¬kI f es[i]!->fF (rP c f es i)=some (.done (.done (.done (dG,6)))))/\(kI f es[i]!->fF (rP c f es i)=some (.next (rP c f es (i+1)))):=by
  intro i hi;have e1:decide ((i:Int)<(es.length:Int))=true:=aO (by omega)
  obtain ⟨p,e,a1,a2⟩:=EY fok (es[i]!).1;obtain ⟨q,g,b1,b2⟩:=EY fok (es[i]!).2;unfold fF rP kI;simp only [e1,cond_true,aB es i hi,aC,a1,b1,bB (show i<1000000000 by omega)]
  by_cases h1:kH f (es[i]!).1
  · rw [bP (a2.2 h1)]
    by_cases h2:kH f (es[i]!).2
    · rw [bP (b2.2 h2)]
      exact ⟨fun h=>absurd ⟨h1,h2⟩ h,fun _=>rfl⟩
    · rw [eZ (fun h=>h2 (b2.1 h))]
      exact ⟨fun _=>rfl,fun h=>absurd h.2 h2⟩
  · rw [eZ (fun h=>h1 (a2.1 h))]
    exact ⟨fun _=>rfl,fun h=>absurd h.1 h1⟩
 have start:uE c ⟨f⟩ es=aJ eM (rP c f es 0):=by
  unfold uE;simp only [hc,aC,show ((0:Int) !=0)=false from rfl,cond_false,hf];rfl
 rw [start]
 by_cases h1: ∀x∈es,fU x
 case neg=>
  have er:oH f es=8:=by unfold oH;rw [if_pos h1]
  rw [er,if_neg (by omega)]
  have:=dC (body:=eM) (fun i=>rP c f es i) es.length (fun i=> ¬fU es[i]!) (r:=(dG,8)) (e:=r)
  have k3':=k3;rw [HB (P:=fU)] at h1;obtain ⟨i,h⟩:=Classical.not_forall.1 h1;obtain ⟨hi,hx⟩:=Classical.not_imp.1 h;obtain ⟨m,m1,m2,m3⟩:=C0 (c:=fun i=> ¬fU es[i]!) ⟨i,hi,hx⟩
  have go: ∀j,j<es.length->(¬fU es[j]!->eM (rP c f es j)=some (.done (dG,8)))/\(fU es[j]!->eM (rP c f es j)=some (.next (rP c f es (j+1)))):=by
   intro j hj;have e1:decide ((j:Int)<(es.length:Int))=true:=aO (by omega)
   unfold eM rP fU;simp only [e1,cond_true,aB es j hj,aC,bB (show j<1000000000 by omega)]
   generalize es[j]! =x
   by_cases a1:x.1<0
   · rw [aO a1];exact ⟨fun _=>rfl,fun h=>by omega⟩
   rw [aL a1]
   by_cases a2:x.2<0
   · rw [aO a2];exact ⟨fun _=>rfl,fun h=>by omega⟩
   rw [aL a2]
   by_cases a3:65535<x.1
   · rw [aO a3];exact ⟨fun _=>rfl,fun h=>by omega⟩
   rw [aL a3]
   by_cases a4:65535<x.2
   · rw [aO a4];exact ⟨fun _=>rfl,fun h=>by omega⟩
   rw [aL a4]
   by_cases a5:x.1=x.2
   · rw [gH a5];exact ⟨fun _=>rfl,fun h=>absurd a5 h.2.2.2.2⟩
   · rw [fR a5];exact ⟨fun h=>absurd ⟨by omega,by omega,by omega,by omega,a5⟩ h,fun _=>rfl⟩
  rw [cV (body:=eM) (fun i=>rP c f es i) m fun j hj=>(go j (by omega)).2 (Classical.not_not.1 (m3 j hj))]
  exact aI ((go m m1).1 m2)
 have h1':=(HB (P:=fU)).1 h1
 by_cases h2:es.Nodup
 case neg=>
  have er:oH f es=14:=by unfold oH;rw [if_neg (Classical.not_not.2 h1),if_pos h2]
  rw [er,if_neg (by omega)]
  have h2':=h2;rw [NB] at h2';obtain ⟨i,h⟩:=Classical.not_forall.1 h2';obtain ⟨hi,hx⟩:=Classical.not_imp.1 h;obtain ⟨m,m1,m2,m3⟩:=C0 (c:=fun i=> ¬es[i]!∉es.take i) ⟨i,hi,hx⟩
  have go: ∀j,j<es.length->(es[j]!∈es.take j->eL (rP c f es j)=some (.done (.done (dG,14))))/\(es[j]!∉es.take j->eL (rP c f es j)=some (.next (rP c f es (j+1)))):=by
   intro j hj;have e1:decide ((j:Int)<(es.length:Int))=true:=aO (by omega)
   unfold eL rP;simp only [e1,cond_true,aB es j hj,oG es j (by omega),aC,oS _ _ (show (es.take j).length<=1000000 by rw [List.length_take];omega),bB (show j<1000000000 by omega)]
   by_cases h:es[j]!∈es.take j
   · rw [aO h];exact ⟨fun _=>rfl,fun k=>absurd h k⟩
   · rw [aL h];exact ⟨fun k=>absurd k h,fun _=>rfl⟩
  have l2:aJ eL (rP c f es 0)=some (.done (dG,14)):=by
   rw [cV (body:=eL) (fun i=>rP c f es i) m fun j hj=>(go j (by omega)).2 (Classical.not_not.1 (m3 j hj))]
   exact aI ((go m m1).1 (Classical.not_not.1 m2))
  rw [k3 _ l2,if_pos h1']
 have h2':=NB.1 h2
 by_cases h3: ∀x∈es,kI f x
 case neg=>
  have er:oH f es=6:=by unfold oH;rw [if_neg (Classical.not_not.2 h1),if_neg (Classical.not_not.2 h2),if_pos h3]
  rw [er,if_neg (by omega)]
  have h3':=h3;rw [HB (P:=kI f)] at h3';obtain ⟨i,h⟩:=Classical.not_forall.1 h3';obtain ⟨hi,hx⟩:=Classical.not_imp.1 h;obtain ⟨m,m1,m2,m3⟩:=C0 (c:=fun i=> ¬kI f es[i]!) ⟨i,hi,hx⟩
  have l1:aJ fF (rP c f es 0)=some (.done (.done (dG,6))):=by
   rw [cV (body:=fF) (fun i=>rP c f es i) m fun j hj=>(step1 j (by omega)).2 (Classical.not_not.1 (m3 j hj))]
   exact aI ((step1 m m1).1 m2)
  rw [k3 _ (k2 _ l1),if_pos h1',if_pos h2']
 have h3':=(HB (P:=kI f)).1 h3;have er:oH f es=0:=by unfold oH;rw [if_neg (Classical.not_not.2 h1),if_neg (Classical.not_not.2 h2),if_neg (Classical.not_not.2 h3)]
 rw [er,if_pos rfl];have l1:aJ fF (rP c f es 0)=some (.done (.done r)):=by
  rw [cV (body:=fF) (fun i=>rP c f es i) es.length fun j hj=>(step1 j hj).2 (h3' j hj)]
  refine aI ?_;unfold fF rP;simp only [el,cond_false,tw,aC,hr er]
 rw [k3 _ (k2 _ l1),if_pos h1',if_pos h2']
end Go.Proofs.YtfejhjllooomlaaGreat
namespace Go.Proofs.YtfejhjllooomlaaGreat
open Go.Vm Classical
theorem O1 {l:List Int} {x:Int} (hl:l.length<=1000000) (hx:x∈l): ∃k,k<l.length/\l[k]! =x/\iZ l x=some (k:Int)/\yB l x=some (k:Int):=by
 obtain ⟨k,k1,k2,k3⟩:=C0 (c:=fun k=>l[k]! =x) (aZ.1 hx)
 have p:=lT (body:=rE) (fun i=>(l,x,(i:Int))) l.length (fun i=>l[i]! =x) (fun i=>(i:Int)) (e:= -1) (fun i hi=>by
  unfold rE;simp only [aE,aO (show (i:Int)<(l.length:Int) by omega),cond_true,aB l i hi,aC,bB (show i<1000000000 by omega)]
  refine ⟨fun h=>?_,fun h=>?_⟩
  · rw [gH h];rfl
  · rw [fR h];rfl) (by
  unfold rE;simp only [aE,aL (show¬(l.length:Int)<(l.length:Int) by omega),cond_false])
 exact ⟨k,k1,k2,(NC l x hl).1 k k1 k2 k3,p.1 k k1 k2 k3⟩
theorem aAt {k:cC} (sh:C9 k.clock) (hl:k.heap.length<=1000000):wL k=some k:=by
 unfold wL;rw [WJ sh,aC,aX (by omega),aC]
end Go.Proofs.YtfejhjllooomlaaGreat
namespace Go.Proofs.YtfejhjllooomlaaGreat
open Go.Vm Classical
theorem DD (l:List Int) (hl:l.length<=1000):xU l=some (eD l):=by
 have n:aA .i64 ((l.length:Int) - (if (l.length:Int)<1 then (l.length:Int) else 1))=((l.length-1:Nat):Int):=by
  split
  · rw [lI ⟨by omega,by omega⟩];omega
  · rw [lI ⟨by omega,by omega⟩];omega
 have key:=cV (body:=nM) (fun i=>(l,((l.length-1:Nat):Int),(i:Int),uX l i)) (l.length-1) (fun i hi=>by
  have e:aA .i64 (Int.tdiv (i:Int) 2)=((i / 2:Nat):Int):=by
   rw [Int.tdiv_eq_ediv_of_nonneg (by omega),lI ⟨by omega,by omega⟩];omega
  unfold nM;simp only [aO (show (i:Int)<((l.length-1:Nat):Int) by omega),cond_true,bB (show i<1000000000 by omega),aB l (i+1) (by omega),e,aB l (i / 2) (by omega),aC]
  rw [dN (by rw [nW,List.length_singleton];omega),aC,<- JS])
 unfold xU;simp only [aE,n];rw [show aJ nM (l,((l.length-1:Nat):Int),0,[])=_ from key];refine aI ?_;unfold nM;simp only [aL (show¬((l.length-1:Nat):Int)<((l.length-1:Nat):Int) by omega),cond_false]
structure O2 (R:cC×Int):Prop where
 c:C9 R.1.clock
 h:R.1.heap.length<=1000
theorem HF {c:aP} (ok:bF c) {f:List Pt} (fok:bS f) {l:List Int} (pm:(oT f).Perm l):
 ∃R:cC×Int,bZ c ⟨f⟩ l=some R/\pJ c ⟨f⟩ l=some R/\O2 R:=by
 have f1:=fok.1;have ln:l.length=f.length:=by rw [<- pm.length_eq];exact List.length_map ..
 have eok:=WK fok pm;have nd:=pm.nodup_iff.1 (wC fok.2.2);obtain ⟨r,r1,r2,r3⟩:=aI9 ok fok eok;have ee:oH f (eD l)=0:=by
  unfold oH;rw [if_neg (Classical.not_not.2 eok.cv),if_neg (Classical.not_not.2 (JU nd)),if_neg (fun h=>h eok.kn)]
 have rn:=NE ok fok (es:=eD l) (by rw [nW];omega) (fun _=>r1)
 rw [if_pos ee] at rn;rcases r3 with ⟨q0,q⟩|he
 · refine ⟨(⟨r.1,l⟩,0),?_,?_,⟨q.ok.short,by show l.length<=1000;omega⟩⟩
   · unfold bZ
     rw [DD l (by omega),aC,rn,aC,q0];rfl
   · unfold pJ
     rw [aCK l (by omega),aC,r2,aC,q0];rfl
 · refine ⟨(⟨dG,[]⟩,18),?_,?_,⟨zB,Nat.zero_le _⟩⟩
   · unfold bZ
     rw [DD l (by omega),aC,rn,aC,he];rfl
   · unfold pJ
     rw [aCK l (by omega),aC,r2,aC,he];rfl
theorem Q0 {f:List Pt} (fok:bS f) {t:Int×Int} (r:cJ t) (r64:rI t) {a b:Int} (ha:kH f a) (hb:kH f b) (hne:a≠b):gV (bG f a) (bG f b) t=some (decide (bQ (bG f a) (bG f b) t),0):=by
 obtain ⟨p1,p2⟩:=fI fok ha;obtain ⟨q1,q2⟩:=fI fok hb;have ne:(bG f a).1≠(bG f b).1:=by rw [p2,q2];exact hne
 rcases B2 p1 q1 r64 r with h|⟨h,_⟩
 · rw [h,if_neg ne]
 · exact absurd h ne
theorem aAu {f:List Pt} (fok:bS f) {t:Int×Int} (r64:rI t) {l:List Int} (hp: ∀x∈l,kH f x) (nd:l.Nodup) {i:Nat} (hi:i<l.length) (hl:l.length<=1000):
 vO ⟨f⟩ t l (i:Int)=some (AA f t (oJ f t i l) (zZ f t i l)):=by
 have pm:=FX f t i l hi;obtain ⟨h1,h2⟩:=UE f t i l hi;have le:=pm.length_eq;have nd':=pm.nodup_iff.2 nd;obtain ⟨j,j1,j2,_,j4⟩:=O1 (l:=oJ f t i l) (x:=l[i]!) (by omega) (pm.mem_iff.2 (bD hi))
 have ej:j=zZ f t i l:=by
  rcases Nat.lt_trichotomy j (zZ f t i l) with h|h|h
  · exact absurd (j2.trans h2.symm) (cR.1 nd' _ _ h (by omega))
  · exact h
  · exact absurd (h2.trans j2.symm) (cR.1 nd' _ _ h (by omega))
 unfold vO FP;rw [aB l i hi,aC,UC fok r64 hp hi hl,aC,j4,aC,aX (by omega),aC,ej]
 rw [show aJ fG _=_ from aJe fok r64 (oJ f t i l).length (oJ f t i l) (zZ f t i l) (by omega) (by omega) (by omega) (fun x hx=>hp x (pm.mem_iff.1 hx)) nd',aC]
end Go.Proofs.YtfejhjllooomlaaGreat
namespace Go.Proofs.YtfejhjllooomlaaGreat
open Go.Vm Classical
structure DE (k:cC) (f:List Pt):Prop where
 clk:bF k.clock
 fok:bS f
structure uY (f:List Pt) (m:Nat) (l:List Int):Prop where
 len:l.length=m
 small:m<=100
 hp: ∀x∈l,kH f x
 nd:l.Nodup
theorem tk {l:List Int} {m:Nat} {x:Int} (h:l.length=m):(l++[x]).take m=l:=by rw [<- h,List.take_left]
section
variable {k : cC} {f : List Pt} {m n0 : Nat} {x : Int}
end
end Go.Proofs.YtfejhjllooomlaaGreat
namespace Go.Proofs.YtfejhjllooomlaaGreat
open Go.Vm Classical
def uS (k:cC) (P:Pt) (f:List Pt) (i:Nat) (L:List Int):=
 ((i:Int),k.clock.now.1,k.clock.now.2,k.clock.field.points,k.clock.certs.next_,k.clock.certs.list,k.clock.agenda.slots.uses,k.clock.agenda.slots.used,k.clock.agenda.slots.free,k.clock.agenda.heap,k.clock.agenda.where_,k.clock.due,k.heap,P.1,P.2.1,P.2.2,(0:Int),(0:Int),(0:Int),f,L,f,k.clock.now.1,k.clock.now.2)
def uJ (k:cC) (P:Pt) (f:List Pt) (i:Nat) (L:List Int) (p q:Pt):=
 ((i:Int),k.clock.now.1,k.clock.now.2,k.clock.field.points,k.clock.certs.next_,k.clock.certs.list,k.clock.agenda.slots.uses,k.clock.agenda.slots.used,k.clock.agenda.slots.free,k.clock.agenda.heap,k.clock.agenda.where_,k.clock.due,k.heap,P.1,P.2.1,P.2.2,(0:Int),(0:Int),(0:Int),f,L,f,k.clock.now.1,k.clock.now.2,p.1,p.2.1,p.2.2,q)
section
variable {k : cC} {P : Pt} {f : List Pt} {m : Nat}
theorem Y2 (ok:DE k f) {c0:_} {l:List Int} (hl:uY f m l) {i b j:Nat} (hi:i<m) (hb:b<m) (hj:j<m) (h2:j<=2*i+2) (hne:j≠b):
 iJ c0 ((i:Int),(b:Int),(j:Int),(uS k P f i l).2)=some (.next ((i:Int),((if bQ (bG f l[j]!) (bG f l[b]!) k.clock.now then j else b:Nat):Int),((j+1:Nat):Int),(uS k P f i l).2)):=by
 have hm:=hl.len;have m1:=hl.small;have e:aA .i64 (aA .i64 (2*(i:Int))+2)=((2*i+2:Nat):Int):=by
  rw [show aA .i64 (2*(i:Int))=2*(i:Int) from lI ⟨by omega,by omega⟩,lI ⟨by omega,by omega⟩];omega
 have pj:=hl.hp _ (bD (show j<l.length by omega))
 have pb:=hl.hp _ (bD (show b<l.length by omega))
 have ne:l[j]!≠l[b]!:=fun h=>by
  rcases Nat.lt_trichotomy j b with q|q|q
  · exact cR.1 hl.nd _ _ q (by omega) h
  · exact hne q
  · exact cR.1 hl.nd _ _ q (by omega) h.symm
 have a:=Q0 ok.fok (t:=(k.clock.now.1,k.clock.now.2)) ok.clk.nowv ok.clk.now64 pj pb ne;unfold iJ uS
 simp only [aE,e,aO (show (j:Int)<=((2*i+2:Nat):Int) by omega),aO (show (j:Int)<(l.length:Int) by omega),cond_true,aB l j (by omega),aB l b (by omega),aC,dQ ok.fok pj,dQ ok.fok pb,a,beq_self_eq_true,bB (show j<1000000000 by omega)]
 by_cases c:bQ (bG f l[j]!) (bG f l[b]!) k.clock.now
 · rw [show decide (bQ (bG f l[j]!) (bG f l[b]!) (k.clock.now.1,k.clock.now.2))=true from aO c,if_pos c];rfl
 · rw [show decide (bQ (bG f l[j]!) (bG f l[b]!) (k.clock.now.1,k.clock.now.2))=false from aL c,if_neg c];rfl
theorem aOW {L0:List Int} (h0:L0.length=m) {i0:Nat} {l:List Int} (hl:uY f m l) {i b j:Nat} (hi:i<m) (hb:b<m) (he: ¬(j<=2*i+2/\j<m)):
 iJ (uS k P f i0 L0) ((i:Int),(b:Int),(j:Int),(uS k P f i l).2)=if b=i then (bZ k.clock ⟨f⟩ l).bind fun a=>some (.done (.done (.done a))) else some (.done (.next (uS k P f b (kK l i b)))):=by
 have hm:=hl.len;have m1:=hl.small;have e:aA .i64 (aA .i64 (2*(i:Int))+2)=((2*i+2:Nat):Int):=by
  rw [show aA .i64 (2*(i:Int))=2*(i:Int) from lI ⟨by omega,by omega⟩,lI ⟨by omega,by omega⟩];omega
 have lx:l.length=L0.length:=by omega
 have g1:=aB (l.set i l[b]!) b (by rw [List.length_set];omega)
 have ceta:(aP.mk (k.clock.now.1,k.clock.now.2) (Field.mk k.clock.field.points) (aU.mk k.clock.certs.next_ k.clock.certs.list) (aG.mk (aR.mk k.clock.agenda.slots.uses k.clock.agenda.slots.used k.clock.agenda.slots.free) k.clock.agenda.heap k.clock.agenda.where_) k.clock.due)=k.clock:=rfl;unfold iJ uS
 by_cases h1:j<=2*i+2
 · have h2: ¬j<m:=fun h=>he ⟨h1,h⟩
   simp only [aE,e,aO (show (j:Int)<=((2*i+2:Nat):Int) by omega),aL (show¬(j:Int)<(l.length:Int) by omega),aL (show¬(j:Int)<(L0.length:Int) by omega),cond_true,cond_false,aB l i (by omega),aB l b (by omega),aC,gM,g1,lx,beq_self_eq_true,ceta]
   by_cases hbi:b=i
   · rw [if_pos hbi,gH (by omega),cond_true]
   · rw [if_neg hbi,fR (by omega),cond_false];rfl
 · simp only [aE,e,aL (show¬(j:Int)<=((2*i+2:Nat):Int) by omega),cond_true,cond_false,aB l i (by omega),aB l b (by omega),aC,gM,g1,lx,beq_self_eq_true,ceta]
   by_cases hbi:b=i
   · rw [if_pos hbi,gH (by omega),cond_true]
   · rw [if_neg hbi,fR (by omega),cond_false];rfl
theorem aRm (ok:DE k f) {L0:List Int} (h0:L0.length=m) {i0:Nat} {l:List Int} (hl:uY f m l) {i:Nat} (hi:i<m) {R:List Int->cC×Int} (hR:bZ k.clock ⟨f⟩ l=some (R l)):
 aJ (iJ (uS k P f i0 L0)) ((i:Int),(i:Int),((2*i+1:Nat):Int),(uS k P f i l).2)=some (if fM f k.clock.now l i=i then .done (.done (R l)) else .next (uS k P f (fM f k.clock.now l i) (kK l i (fM f k.clock.now l i)))):=by
 have hm:=hl.len;have fin: ∀b j:Nat,b<m-> ¬(j<=2*i+2/\j<m)->fM f k.clock.now l i=b->aJ (iJ (uS k P f i0 L0)) ((i:Int),(b:Int),(j:Int),(uS k P f i l).2)=some (if fM f k.clock.now l i=i then .done (.done (R l)) else .next (uS k P f (fM f k.clock.now l i) (kK l i (fM f k.clock.now l i)))):=by
  intro b j hb he hk;rw [hk]
  have:=aOW (k:=k) (P:=P) h0 (i0:=i0) hl hi hb he
  by_cases hbi:b=i
  · rw [if_pos hbi,hR,aC] at this
    rw [if_pos hbi];exact aI this
  · rw [if_neg hbi] at this
    rw [if_neg hbi];exact aI this
 have kA:mX f k.clock.now l i<m:=by rcases sJ f k.clock.now l i with h|⟨h,h2⟩<;>omega
 by_cases h1:2*i+1<m
 case neg=>
  have e1:mX f k.clock.now l i=i:=by unfold mX;rw [if_neg (fun h=>h1 (by omega))]
  have e2:fM f k.clock.now l i=i:=by unfold fM;rw [if_neg (fun h=>h1 (by omega)),e1]
  exact fin i (2*i+1) hi (fun h=>h1 h.2) e2
 rw [aV (Y2 ok hl hi hi h1 (by omega) (by omega))]
 have eA:(if bQ (bG f l[2*i+1]!) (bG f l[i]!) k.clock.now then 2*i+1 else i)=mX f k.clock.now l i:=by
  unfold mX
  by_cases c:bQ (bG f l[2*i+1]!) (bG f l[i]!) k.clock.now
  · rw [if_pos c,if_pos ⟨by omega,c⟩]
  · rw [if_neg c,if_neg (fun h=>c h.2)]
 rw [eA]
 by_cases h2:2*i+1+1<m
 case neg=>
  have e2:fM f k.clock.now l i=mX f k.clock.now l i:=by unfold fM;rw [if_neg (fun h=>h2 (by omega))]
  exact fin _ (2*i+1+1) kA (fun h=>h2 h.2) e2
 have nk:2*i+1+1≠mX f k.clock.now l i:=by rcases sJ f k.clock.now l i with h|⟨h,_⟩<;>omega
 rw [aV (Y2 ok hl hi kA h2 (by omega) nk)]
 have eG:(if bQ (bG f l[2*i+1+1]!) (bG f l[mX f k.clock.now l i]!) k.clock.now then 2*i+1+1 else mX f k.clock.now l i)=fM f k.clock.now l i:=by
  unfold fM
  by_cases c:bQ (bG f l[2*i+1+1]!) (bG f l[mX f k.clock.now l i]!) k.clock.now
  · rw [if_pos c,if_pos ⟨by omega,c⟩]
  · rw [if_neg c,if_neg (fun h=>c h.2)]
 rw [eG];exact fin _ (2*i+1+1+1) (by rw [<- eG];split<;>omega) (fun h=>by omega) rfl
theorem Y3 (ok:DE k f) {c0:_} {l:List Int} (hl:uY f m l) {i b j:Nat} (hi:i<m) (hb:b<m) (hj:j<m) (h2:j<=2*i+2) (hne:j≠b) {p q:Pt}:
 iI c0 ((i:Int),(b:Int),(j:Int),(uJ k P f i l p q).2)=some (.next ((i:Int),((if bQ (bG f l[j]!) (bG f l[b]!) k.clock.now then j else b:Nat):Int),((j+1:Nat):Int),(uJ k P f i l p q).2)):=by
 have hm:=hl.len;have m1:=hl.small;have e:aA .i64 (aA .i64 (2*(i:Int))+2)=((2*i+2:Nat):Int):=by
  rw [show aA .i64 (2*(i:Int))=2*(i:Int) from lI ⟨by omega,by omega⟩,lI ⟨by omega,by omega⟩];omega
 have pj:=hl.hp _ (bD (show j<l.length by omega))
 have pb:=hl.hp _ (bD (show b<l.length by omega))
 have ne:l[j]!≠l[b]!:=fun h=>by
  rcases Nat.lt_trichotomy j b with q|q|q
  · exact cR.1 hl.nd _ _ q (by omega) h
  · exact hne q
  · exact cR.1 hl.nd _ _ q (by omega) h.symm
 have a:=Q0 ok.fok (t:=(k.clock.now.1,k.clock.now.2)) ok.clk.nowv ok.clk.now64 pj pb ne;unfold iI uJ
 simp only [aE,e,aO (show (j:Int)<=((2*i+2:Nat):Int) by omega),aO (show (j:Int)<(l.length:Int) by omega),cond_true,aB l j (by omega),aB l b (by omega),aC,dQ ok.fok pj,dQ ok.fok pb,a,beq_self_eq_true,bB (show j<1000000000 by omega)]
 by_cases c:bQ (bG f l[j]!) (bG f l[b]!) k.clock.now
 · rw [show decide (bQ (bG f l[j]!) (bG f l[b]!) (k.clock.now.1,k.clock.now.2))=true from aO c,if_pos c];rfl
 · rw [show decide (bQ (bG f l[j]!) (bG f l[b]!) (k.clock.now.1,k.clock.now.2))=false from aL c,if_neg c];rfl
theorem aOX {L0:List Int} (h0:L0.length=m) {i0:Nat} {l:List Int} (hl:uY f m l) {i b j:Nat} (hi:i<m) (hb:b<m) (he: ¬(j<=2*i+2/\j<m)) {p q:Pt}:
 iI (uS k P f i0 L0) ((i:Int),(b:Int),(j:Int),(uJ k P f i l p q).2)=if b=i then (bZ k.clock ⟨f⟩ l).bind fun a=>some (.done (.done (.done a))) else some (.done (.next (uJ k P f b (kK l i b) p q))):=by
 have hm:=hl.len;have m1:=hl.small;have e:aA .i64 (aA .i64 (2*(i:Int))+2)=((2*i+2:Nat):Int):=by
  rw [show aA .i64 (2*(i:Int))=2*(i:Int) from lI ⟨by omega,by omega⟩,lI ⟨by omega,by omega⟩];omega
 have lx:l.length=L0.length:=by omega
 have g1:=aB (l.set i l[b]!) b (by rw [List.length_set];omega)
 have ceta:(aP.mk (k.clock.now.1,k.clock.now.2) (Field.mk k.clock.field.points) (aU.mk k.clock.certs.next_ k.clock.certs.list) (aG.mk (aR.mk k.clock.agenda.slots.uses k.clock.agenda.slots.used k.clock.agenda.slots.free) k.clock.agenda.heap k.clock.agenda.where_) k.clock.due)=k.clock:=rfl;unfold iI uS uJ
 by_cases h1:j<=2*i+2
 · have h2: ¬j<m:=fun h=>he ⟨h1,h⟩
   simp only [aE,e,aO (show (j:Int)<=((2*i+2:Nat):Int) by omega),aL (show¬(j:Int)<(l.length:Int) by omega),aL (show¬(j:Int)<(L0.length:Int) by omega),cond_true,cond_false,aB l i (by omega),aB l b (by omega),aC,gM,g1,lx,beq_self_eq_true,ceta]
   by_cases hbi:b=i
   · rw [if_pos hbi,gH (by omega),cond_true]
   · rw [if_neg hbi,fR (by omega),cond_false];rfl
 · simp only [aE,e,aL (show¬(j:Int)<=((2*i+2:Nat):Int) by omega),cond_true,cond_false,aB l i (by omega),aB l b (by omega),aC,gM,g1,lx,beq_self_eq_true,ceta]
   by_cases hbi:b=i
   · rw [if_pos hbi,gH (by omega),cond_true]
   · rw [if_neg hbi,fR (by omega),cond_false];rfl
theorem aRn (ok:DE k f) {L0:List Int} (h0:L0.length=m) {i0:Nat} {l:List Int} (hl:uY f m l) {i:Nat} (hi:i<m) {p q:Pt} {R:List Int->cC×Int} (hR:bZ k.clock ⟨f⟩ l=some (R l)):
 aJ (iI (uS k P f i0 L0)) ((i:Int),(i:Int),((2*i+1:Nat):Int),(uJ k P f i l p q).2)=some (if fM f k.clock.now l i=i then .done (.done (R l)) else .next (uJ k P f (fM f k.clock.now l i) (kK l i (fM f k.clock.now l i)) p q)):=by
 have hm:=hl.len;have fin: ∀b j:Nat,b<m-> ¬(j<=2*i+2/\j<m)->fM f k.clock.now l i=b->aJ (iI (uS k P f i0 L0)) ((i:Int),(b:Int),(j:Int),(uJ k P f i l p q).2)=some (if fM f k.clock.now l i=i then .done (.done (R l)) else .next (uJ k P f (fM f k.clock.now l i) (kK l i (fM f k.clock.now l i)) p q)):=by
  intro b j hb he hk;rw [hk]
  have:=aOX (k:=k) (P:=P) h0 (i0:=i0) hl hi hb he (p:=p) (q:=q)
  by_cases hbi:b=i
  · rw [if_pos hbi,hR,aC] at this
    rw [if_pos hbi];exact aI this
  · rw [if_neg hbi] at this
    rw [if_neg hbi];exact aI this
 have kA:mX f k.clock.now l i<m:=by rcases sJ f k.clock.now l i with h|⟨h,h2⟩<;>omega
 by_cases h1:2*i+1<m
 case neg=>
  have e1:mX f k.clock.now l i=i:=by unfold mX;rw [if_neg (fun h=>h1 (by omega))]
  have e2:fM f k.clock.now l i=i:=by unfold fM;rw [if_neg (fun h=>h1 (by omega)),e1]
  exact fin i (2*i+1) hi (fun h=>h1 h.2) e2
 rw [aV (Y3 ok hl hi hi h1 (by omega) (by omega) (p:=p) (q:=q))]
 have eA:(if bQ (bG f l[2*i+1]!) (bG f l[i]!) k.clock.now then 2*i+1 else i)=mX f k.clock.now l i:=by
  unfold mX
  by_cases c:bQ (bG f l[2*i+1]!) (bG f l[i]!) k.clock.now
  · rw [if_pos c,if_pos ⟨by omega,c⟩]
  · rw [if_neg c,if_neg (fun h=>c h.2)]
 rw [eA]
 by_cases h2:2*i+1+1<m
 case neg=>
  have e2:fM f k.clock.now l i=mX f k.clock.now l i:=by unfold fM;rw [if_neg (fun h=>h2 (by omega))]
  exact fin _ (2*i+1+1) kA (fun h=>h2 h.2) e2
 have nk:2*i+1+1≠mX f k.clock.now l i:=by rcases sJ f k.clock.now l i with h|⟨h,_⟩<;>omega
 rw [aV (Y3 ok hl hi kA h2 (by omega) nk (p:=p) (q:=q))]
 have eG:(if bQ (bG f l[2*i+1+1]!) (bG f l[mX f k.clock.now l i]!) k.clock.now then 2*i+1+1 else mX f k.clock.now l i)=fM f k.clock.now l i:=by
  unfold fM
  by_cases c:bQ (bG f l[2*i+1+1]!) (bG f l[mX f k.clock.now l i]!) k.clock.now
  · rw [if_pos c,if_pos ⟨by omega,c⟩]
  · rw [if_neg c,if_neg (fun h=>c h.2)]
 rw [eG];exact fin _ (2*i+1+1+1) (by rw [<- eG];split<;>omega) (fun h=>by omega) rfl
theorem aRo (ok:DE k f) {L0:List Int} (h0:L0.length=m) {i0:Nat} {R:List Int->cC×Int} {l0:List Int} (hR: ∀l:List Int,l.Perm l0->bZ k.clock ⟨f⟩ l=some (R l)):
 ∀(d:Nat) (l:List Int) (i:Nat),m-i<=d->i<m->uY f m l->l.Perm l0->aJ (pA (uS k P f i0 L0)) (uS k P f i l)=some (.done (R (AA f k.clock.now l i))):=by
 intro d
 induction d with
 |zero=>intro l i h hi;omega
 |succ d ih=>
  intro l i h hi hl pm;have hm:=hl.len;have m1:=hl.small;have e:aA .i64 (aA .i64 (2*(i:Int))+1)=((2*i+1:Nat):Int):=by
   rw [show aA .i64 (2*(i:Int))=2*(i:Int) from lI ⟨by omega,by omega⟩,lI ⟨by omega,by omega⟩];omega
  have g:=aRm (k:=k) (P:=P) ok h0 (i0:=i0) hl hi (hR l pm);have st:pA (uS k P f i0 L0) (uS k P f i l)=some (if fM f k.clock.now l i=i then .done (.done (R l)) else .next (uS k P f (fM f k.clock.now l i) (kK l i (fM f k.clock.now l i)))):=by
   unfold pA;rw [show (uS k P f i l).1=(i:Int) from rfl,e];exact g
  by_cases hk:fM f k.clock.now l i=i
  · rw [if_pos hk] at st
    rw [pK hk];exact aI st
  · rw [if_neg hk] at st
    have kc:=BL f k.clock.now l i;have sp:=qD (l:=l) (i:=i) (j:=fM f k.clock.now l i) (by omega) (by omega)
    rw [aV st,HD hk];exact ih _ _ (by omega) (by omega) ⟨by rw [jR];exact hm,hl.small,fun y hy=>hl.hp y (sp.mem_iff.1 hy),sp.nodup_iff.2 hl.nd⟩ (sp.trans pm)
theorem aRp (ok:DE k f) {L0:List Int} (h0:L0.length=m) {i0:Nat} {p q:Pt} {R:List Int->cC×Int} {l0:List Int} (hR: ∀l:List Int,l.Perm l0->bZ k.clock ⟨f⟩ l=some (R l)):
 ∀(d:Nat) (l:List Int) (i:Nat),m-i<=d->i<m->uY f m l->l.Perm l0->aJ (oZ (uS k P f i0 L0)) (uJ k P f i l p q)=some (.done (R (AA f k.clock.now l i))):=by
 intro d
 induction d with
 |zero=>intro l i h hi;omega
 |succ d ih=>
  intro l i h hi hl pm;have hm:=hl.len;have m1:=hl.small;have e:aA .i64 (aA .i64 (2*(i:Int))+1)=((2*i+1:Nat):Int):=by
   rw [show aA .i64 (2*(i:Int))=2*(i:Int) from lI ⟨by omega,by omega⟩,lI ⟨by omega,by omega⟩];omega
  have g:=aRn (k:=k) (P:=P) ok h0 (i0:=i0) hl hi (p:=p) (q:=q) (hR l pm);have st:oZ (uS k P f i0 L0) (uJ k P f i l p q)=some (if fM f k.clock.now l i=i then .done (.done (R l)) else .next (uJ k P f (fM f k.clock.now l i) (kK l i (fM f k.clock.now l i)) p q)):=by
   unfold oZ;rw [show (uJ k P f i l p q).1=(i:Int) from rfl,e];exact g
  by_cases hk:fM f k.clock.now l i=i
  · rw [if_pos hk] at st
    rw [pK hk];exact aI st
  · rw [if_neg hk] at st
    have kc:=BL f k.clock.now l i;have sp:=qD (l:=l) (i:=i) (j:=fM f k.clock.now l i) (by omega) (by omega)
    rw [aV st,HD hk];exact ih _ _ (by omega) (by omega) ⟨by rw [jR];exact hm,hl.small,fun y hy=>hl.hp y (sp.mem_iff.1 hy),sp.nodup_iff.2 hl.nd⟩ (sp.trans pm)
theorem aRq (ok:DE k f) {c0:List Int} (hc:c0.length=m) {R:List Int->cC×Int} {l0:List Int} (hR: ∀l:List Int,l.Perm l0->bZ k.clock ⟨f⟩ l=some (R l)):
 ∀(i:Nat) (l:List Int),i<m->uY f m l->l.Perm l0->aJ (mM c0) (uS k P f i l)=some (R (AA f k.clock.now (oJ f k.clock.now i l) (zZ f k.clock.now i l))):=by
 intro i
 induction i using Nat.strongRecOn with
 |ind i ih=>
  intro l hi hl pm;have hm:=hl.len;have m1:=hl.small;have lx:l.length=m:=hm;cases i with
  |zero=>
   have g:=aRo (P:=P) ok lx (i0:=0) hR m l 0 (by omega) hi hl pm
   unfold oJ zZ;refine aI ?_;unfold mM;rw [show (uS k P f 0 l).1=0 from rfl,aL (by omega),cond_false]
   rw [show (uS k P f 0 l).2.2.2.2.2.2.2.2.2.2.2.2.2.2.2.2.2.2.2.2.1=l from rfl,lx,hc,beq_self_eq_true,cond_true];exact g
  |succ i=>
   have hu:=QZ (i:=i+1) (by omega) (by omega)
   rw [show (i+1-1) / 2=i / 2 from rfl] at hu;have pi:=hl.hp _ (bD (show i+1<l.length by omega))
   have pj:=hl.hp _ (bD (show i / 2<l.length by omega))
   have ne:l[i+1]!≠l[i / 2]!:=fun h=>cR.1 hl.nd (i / 2) (i+1) (by omega) (by omega) h.symm
   have a:=Q0 ok.fok (t:=(k.clock.now.1,k.clock.now.2)) ok.clk.nowv ok.clk.now64 pi pj ne;have g1:=aB l (i+1) (by omega)
   have g2:=aB l (i / 2) (by omega)
   have g3:=aB (l.set (i+1) l[i / 2]!) (i / 2) (by rw [List.length_set];omega)
   unfold oJ zZ
   by_cases c:bQ (bG f l[i+1]!) (bG f l[i / 2]!) k.clock.now
   · rw [if_pos c,if_pos c]
     rw [show decide (bQ (bG f l[i+1]!) (bG f l[i / 2]!) (k.clock.now.1,k.clock.now.2))=true from aO c] at a;have sp:=qD (l:=l) (i:=i+1) (j:=i / 2) (by omega) (by omega)
     rw [aV (y:=uS k P f (i / 2) (kK l (i+1) (i / 2))) (by
      unfold mM uS;simp only [aO (show (0:Int)<((i+1:Nat):Int) by omega),cond_true,g1,g2,aC,hu,dQ ok.fok pi,dQ ok.fok pj,a,beq_self_eq_true,gM,g3]
      rfl)]
     exact ih (i / 2) (by omega) _ (by omega) ⟨by rw [jR];exact hm,hl.small,fun y hy=>hl.hp y (sp.mem_iff.1 hy),sp.nodup_iff.2 hl.nd⟩ (sp.trans pm)
   · rw [if_neg c,if_neg c]
     rw [show decide (bQ (bG f l[i+1]!) (bG f l[i / 2]!) (k.clock.now.1,k.clock.now.2))=false from aL c] at a;have g:=aRp (P:=P) ok lx (i0:=i+1) (p:=bG f l[i+1]!) (q:=bG f l[i / 2]!) hR m l (i+1) (by omega) hi hl pm
     refine aI ?_;unfold mM
     conv=>lhs;unfold uS
     simp only [aO (show (0:Int)<((i+1:Nat):Int) by omega),cond_true,g1,g2,aC,hu,dQ ok.fok pi,dQ ok.fok pj,a,beq_self_eq_true,cond_false,lx,hc]
     exact g
end
end Go.Proofs.YtfejhjllooomlaaGreat
namespace Go.Proofs.YtfejhjllooomlaaGreat
open Go.Vm Classical
end Go.Proofs.YtfejhjllooomlaaGreat
namespace Go.Proofs.YtfejhjllooomlaaGreat
open Go.Vm Classical
def vS (k:cC) (P:Pt) (f:List Pt) (i:Nat) (L:List Int):=
 ((i:Int),k.clock.now.1,k.clock.now.2,k.clock.field.points,k.clock.certs.next_,k.clock.certs.list,k.clock.agenda.slots.uses,k.clock.agenda.slots.used,k.clock.agenda.slots.free,k.clock.agenda.heap,k.clock.agenda.where_,k.clock.due,k.heap,P.1,P.2.1,P.2.2,(0:Int),(0:Int),(0:Int),f,[P.1],L,f,k.clock.now.1,k.clock.now.2)
theorem aRr {k:cC} {P:Pt} {f:List Pt} {m:Nat} (ok:DE k f) {c0:Pt} {c1:List Int} (hc:c1.length=m) {R:List Int->cC×Int} {l0:List Int} (hR: ∀l:List Int,l.Perm l0->bZ k.clock ⟨f⟩ l=some (R l)):
 ∀(i:Nat) (l:List Int),i<m->uY f m l->l.Perm l0->aJ (qU c0 c1) (vS k P f i l)=some (R (oJ f k.clock.now i l)):=by
 have ceta:(aP.mk (k.clock.now.1,k.clock.now.2) (Field.mk k.clock.field.points) (aU.mk k.clock.certs.next_ k.clock.certs.list) (aG.mk (aR.mk k.clock.agenda.slots.uses k.clock.agenda.slots.used k.clock.agenda.slots.free) k.clock.agenda.heap k.clock.agenda.where_) k.clock.due)=k.clock:=rfl;intro i
 induction i using Nat.strongRecOn with
 |ind i ih=>
  intro l hi hl pm;have hm:=hl.len;have m1:=hl.small;have lx:l.length=m:=hm;cases i with
  |zero=>
   unfold oJ;refine aI ?_;unfold qU vS;simp only [aL (show¬(0:Int)<((0:Nat):Int) by omega),cond_false,List.length_singleton,lx,hc,beq_self_eq_true,cond_true,ceta,hR l pm,aC]
  |succ i=>
   have hu:=QZ (i:=i+1) (by omega) (by omega)
   rw [show (i+1-1) / 2=i / 2 from rfl] at hu;have pi:=hl.hp _ (bD (show i+1<l.length by omega))
   have pj:=hl.hp _ (bD (show i / 2<l.length by omega))
   have ne:l[i+1]!≠l[i / 2]!:=fun h=>cR.1 hl.nd (i / 2) (i+1) (by omega) (by omega) h.symm
   have a:=Q0 ok.fok (t:=(k.clock.now.1,k.clock.now.2)) ok.clk.nowv ok.clk.now64 pi pj ne;have g1:=aB l (i+1) (by omega)
   have g2:=aB l (i / 2) (by omega)
   have g3:=aB (l.set (i+1) l[i / 2]!) (i / 2) (by rw [List.length_set];omega)
   unfold oJ
   by_cases c:bQ (bG f l[i+1]!) (bG f l[i / 2]!) k.clock.now
   · rw [if_pos c]
     rw [show decide (bQ (bG f l[i+1]!) (bG f l[i / 2]!) (k.clock.now.1,k.clock.now.2))=true from aO c] at a;have sp:=qD (l:=l) (i:=i+1) (j:=i / 2) (by omega) (by omega)
     rw [aV (y:=vS k P f (i / 2) (kK l (i+1) (i / 2))) (by
      unfold qU vS;simp only [aO (show (0:Int)<((i+1:Nat):Int) by omega),cond_true,g1,g2,aC,hu,dQ ok.fok pi,dQ ok.fok pj,a,beq_self_eq_true,gM,g3]
      rfl)]
     exact ih (i / 2) (by omega) _ (by omega) ⟨by rw [jR];exact hm,hl.small,fun y hy=>hl.hp y (sp.mem_iff.1 hy),sp.nodup_iff.2 hl.nd⟩ (sp.trans pm)
   · rw [if_neg c]
     rw [show decide (bQ (bG f l[i+1]!) (bG f l[i / 2]!) (k.clock.now.1,k.clock.now.2))=false from aL c] at a;refine aI ?_;unfold qU vS;simp only [aO (show (0:Int)<((i+1:Nat):Int) by omega),cond_true,g1,g2,aC,hu,dQ ok.fok pi,dQ ok.fok pj,a,beq_self_eq_true,cond_false,List.length_singleton,lx,hc,ceta,hR l pm]
theorem JW {c:aP} (ok:bF c) {f:List Pt} (fok:bS f) {l0:List Int} (pm:(oT f).Perm l0):
 ∃R:List Int->cC×Int,∀l:List Int,l.Perm l0->bZ c ⟨f⟩ l=some (R l)/\pJ c ⟨f⟩ l=some (R l)/\O2 (R l):=by
 refine ⟨fun l=>if h:(oT f).Perm l then (HF ok fok h).choose else (⟨dG,[]⟩,0),fun l hl=>?_⟩
 have h:=pm.trans hl.symm;simp only [dif_pos h];exact (HF ok fok h).choose_spec
theorem aCQ {k:cC} (n:aAs k.clock) (sh:C9 k.clock) (hl:k.heap.length<=1000) (p:Pt): ∃R:cC×Int,vV k p=some R/\vZ k p=some R/\O2 R:=by
 have fit:uL k.clock:=⟨n.now,⟨sh.s3,sh.h,sh.w,n.at64⟩,sh.d⟩;have bad: ∀e:Int,O2 (⟨dG,[]⟩,e):=fun e=>⟨zB,Nat.zero_le _⟩
 have c1:=DB fit hl;have c2:=DC fit hl
 by_cases ok:I3 k
 case neg=>
  rw [if_neg ok] at c1 c2;refine ⟨(⟨dG,[]⟩,8),?_,?_,bad 8⟩
  · unfold vV;rw [c1];rfl
  · unfold vZ;rw [c2];rfl
 rw [if_pos ok] at c1 c2;have fok:=ok.clk.fld;have f1:=fok.1;rcases ND fok p with ⟨e,e0,t1,t2⟩|⟨m,hm,hp,po,hlt,t1,t2⟩
 · have t1:mR k.clock.field p=some (⟨[]⟩,e):=t1
   have t2:mT k.clock.field p=some (⟨[]⟩,e):=t2;have eb:(e !=0)=true:=by simpa using e0
   refine ⟨(⟨dG,[]⟩,e),?_,?_,bad e⟩
   · unfold vV;rw [c1,aC,bP rfl,cond_false,t1,aC,eb,cond_true]
   · unfold vZ;rw [c2,aC,bP rfl,cond_false,t2,aC,eb,cond_true]
 have t1:mR k.clock.field p=some (⟨EC k.clock.field.points m p⟩,0):=t1;have t2:mT k.clock.field p=some (⟨EC k.clock.field.points m p⟩,0):=t2;have fok':=aJf fok po hm hlt;generalize hF:EC k.clock.field.points m p=F at*;have hn:k.heap.length=k.clock.field.points.length:=by rw [<- ok.perm.length_eq];exact List.length_map ..
 have pm:(oT F).Perm (k.heap++[p.1]):=by
  have e1:oT F=(oT k.clock.field.points).take m++p.1::(oT k.clock.field.points).drop m:=by
   rw [<- hF];unfold EC oT;rw [List.map_append,List.map_cons,List.map_take,List.map_drop]
  rw [e1];refine List.perm_middle.trans ?_;rw [List.take_append_drop];exact (List.Perm.cons _ ok.perm).trans (List.perm_append_singleton _ _).symm
 obtain ⟨R,hR⟩:=JW ok.clk fok' pm;have ll:(k.heap++[p.1]).length=k.heap.length+1:=by rw [List.length_append,List.length_singleton]
 have lo:uY F (k.heap.length+1) (k.heap++[p.1]):=⟨ll,by omega,fun y hy=>vR.1 (pm.mem_iff.2 hy),pm.nodup_iff.1 (wC fok'.2.2)⟩
 have go:=aRr (k:=k) (P:=p) (c0:=p) ⟨ok.clk,fok'⟩ ll (fun l hl=>(hR l hl).1) k.heap.length (k.heap++[p.1]) (by omega) lo (List.Perm.refl _)
 have pr:=FX F k.clock.now k.heap.length (k.heap++[p.1]) (by omega)
 have ew:aA .i64 (((k.heap.length+1:Nat):Int) -1)=(k.heap.length:Int):=by rw [lI ⟨by omega,by omega⟩];omega
 have ap:bO k.heap [p.1]=some (k.heap++[p.1]):=dN (by rw [List.length_singleton];omega)
 refine ⟨_,?_,?_,(hR _ pr).2.2⟩
 · unfold vV
   simp only [c1,aC,show ((0:Int) !=0)=false from rfl,cond_false,t1,aX (show k.heap.length<=1048576 by omega),ap,beq_self_eq_true,cond_true,aE,ll,ew]
   exact go
 · unfold vZ
   simp only [c2,aC,show ((0:Int) !=0)=false from rfl,cond_false,t2,aX (show k.heap.length<=1048576 by omega),ap,aE,ll,ew]
   rw [UC fok' ok.clk.now64 lo.hp (by omega) (by omega),aC,(hR _ pr).2.1];rfl
theorem UH {k:cC} (n:aAs k.clock) (sh:C9 k.clock) (hl:k.heap.length<=1000) (p:Pt): ∃R:cC×Int,oC k p=some R/\oD k p=some R/\O2 R:=by
 have fit:uL k.clock:=⟨n.now,⟨sh.s3,sh.h,sh.w,n.at64⟩,sh.d⟩;have bad: ∀e:Int,O2 (⟨dG,[]⟩,e):=fun e=>⟨zB,Nat.zero_le _⟩
 have c1:=DB fit hl;have c2:=DC fit hl
 by_cases ok:I3 k
 case neg=>
  rw [if_neg ok] at c1 c2;refine ⟨(⟨dG,[]⟩,8),?_,?_,bad 8⟩
  · unfold oC;rw [c1];rfl
  · unfold oD;rw [c2];rfl
 rw [if_pos ok] at c1 c2;have fok:=ok.clk.fld;have f1:=fok.1;rcases HE fok p with ⟨e,e0,t1,t2⟩|⟨q,hq,he,po,t1,t2⟩
 · have t1:iS k.clock.field p=some (⟨[]⟩,e):=t1
   have t2:iT k.clock.field p=some (⟨[]⟩,e):=t2;have eb:(e !=0)=true:=by simpa using e0
   refine ⟨(⟨dG,[]⟩,e),?_,?_,bad e⟩
   · unfold oC;rw [c1,aC,bP rfl,cond_false,t1,aC,eb,cond_true]
   · unfold oD;rw [c2,aC,bP rfl,cond_false,t2,aC,eb,cond_true]
 have t1:iS k.clock.field p=some (⟨k.clock.field.points.set q p⟩,0):=t1;have t2:iT k.clock.field p=some (⟨k.clock.field.points.set q p⟩,0):=t2;have fok':=aOV fok po hq he;have ide:oT (k.clock.field.points.set q p)=oT k.clock.field.points:=by
  unfold oT;rw [List.map_set,<- he];refine List.ext_getElem? fun j=>?_
  rw [List.getElem?_set];split
  · rename_i h
    subst h;rw [if_pos (by rw [List.length_map];exact hq),List.getElem?_map,List.getElem?_eq_getElem hq,getElem!_pos _ q hq];rfl
  · rfl
 generalize hF:k.clock.field.points.set q p=F at*;have hn:k.heap.length=k.clock.field.points.length:=by rw [<- ok.perm.length_eq];exact List.length_map ..
 have pm:(oT F).Perm k.heap:=by rw [ide];exact ok.perm
 have hidm:p.1∈k.heap:=ok.perm.mem_iff.1 (vR.2 ⟨q,hq,he⟩);obtain ⟨a,a1,a2,a3,a4⟩:=O1 (l:=k.heap) (by omega) hidm
 obtain ⟨R,hR⟩:=JW ok.clk fok' pm;have lo:uY F k.heap.length k.heap:=⟨rfl,by omega,fun y hy=>vR.1 (pm.mem_iff.2 hy),pm.nodup_iff.1 (wC fok'.2.2)⟩
 have go:=aRq (k:=k) (P:=p) ⟨ok.clk,fok'⟩ (c0:=k.heap) rfl (fun l hl=>(hR l hl).1) a k.heap a1 lo (List.Perm.refl _)
 have pr:=FX F k.clock.now a k.heap a1;have ri:=(UE F k.clock.now a k.heap a1).1;have pk:=(WN F k.clock.now _ (oJ F k.clock.now a k.heap) (zZ F k.clock.now a k.heap) (Nat.le_refl _) (by rw [pr.length_eq];exact ri)).trans pr
 refine ⟨_,?_,?_,(hR _ pk).2.2⟩
 · unfold oC
   simp only [c1,aC,show ((0:Int) !=0)=false from rfl,cond_false,t1,aX (show k.heap.length<=1048576 by omega),beq_self_eq_true,cond_true,a3]
   exact go
 · unfold oD
   simp only [c2,aC,show ((0:Int) !=0)=false from rfl,cond_false,t2,a4];rw [aAu fok' ok.clk.now64 lo.hp lo.nd a1 (by omega),aC,(hR _ pk).2.1];rfl
theorem DF (k:cC) (p q:Pt) (n:aAs k.clock):uU k p q=some true:=by
 unfold uU;rcases WL k with e|⟨e,sh,hl⟩
 · rw [e];rfl
 rw [e,aC,cond_false,aAt sh (by omega),aC]
 obtain ⟨R,r1,r2,r3⟩:=aCQ n sh (by omega) p
 obtain ⟨S,s1,s2,s3⟩:=UH n sh (by omega) q
 rw [r1,aC,r2,aC,s1,aC,s2,aC,I4 r3.c (by have:=r3.h;omega),aC,cond_true,gH rfl,cond_true,I4 s3.c (by have:=s3.h;omega),aC,cond_true,gH rfl,cond_true,I4 sh (by omega),aC]
end Go.Proofs.YtfejhjllooomlaaGreat
namespace Go.Proofs.YtfejhjllooomlaaGreat
open Go.Vm Classical
theorem aAs.of {c:aP} (h1:RT.wf [.i .i64,.i .i64] c.now) (h2: ∀a∈c.agenda.heap,RT.wf [.i .i64,.i .i64,.i .i64,.i .i64,.i .i64] a):aAs c where
 now:=⟨PZ h1.1,PZ h1.2⟩
 at64 w hw:=by
  have:=h2 (c.agenda.heap[w]!) (by rw [getElem!_pos c.agenda.heap w hw];exact List.getElem_mem hw)
  exact ⟨PZ this.1,PZ this.2.1⟩
end Go.Proofs.YtfejhjllooomlaaGreat
