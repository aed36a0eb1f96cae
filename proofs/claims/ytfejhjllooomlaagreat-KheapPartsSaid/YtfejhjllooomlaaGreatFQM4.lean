/- Plain laws (4). -/
import Derived.Test.YtfejhjllooomlaaGreatFQM3
import Derived.Test.YtfejhjllooomlaaGreatFQS1
import Derived.Test.YtfejhjllooomlaaGreatFVm3
namespace Go.Proofs.YtfejhjllooomlaaGreat
open Go.Vm Classical
theorem UG {f:List Pt} (fok:fO f) {l:List Int} (pm:(BW f).Perm l):IV f (dL l):=by
 have nd:=pm.nodup_iff.1 (xT fok.2.2);have f1:=fok.1;have ln:l.length=f.length:=by rw [<- pm.length_eq];exact List.length_map ..
 have hp: ∀e∈dL l,lI f e:=fun e he=>⟨vV.1 (pm.mem_iff.2 (G4 he).1),vV.1 (pm.mem_iff.2 (G4 he).2)⟩
 refine ⟨by rw [qJ];omega,fun e he=>?_,hp⟩
 obtain ⟨⟨p1,p2⟩,q1,q2⟩:=And.intro (eN fok (hp e he).1) (eN fok (hp e he).2);have ne:=SG nd he;unfold fS at p1 q1;unfold jD;omega
def BY (l:List Int) (i j:Nat):List Int:=(l.set i l[j]!).set j l[i]!
theorem M8 {l:List Int} {i j:Nat} (hi:i<l.length) (hj:j<l.length):(BY l i j).Perm l:=by
 unfold BY;rw [getElem!_pos l i hi,getElem!_pos l j hj];exact List.set_set_perm hi hj
theorem aAR (l:List Int) (hl:l.length<=1000000):jF l l=some true:=by
 unfold jF;rw [bX rfl,cond_false]
 have:=eG (body:=mN) (fun i=>(l,l,(i:Int))) l.length (fun i hi=>by
  unfold mN;simp only [aE,aR (show (i:Int)<(l.length:Int) by omega),cond_true,aC l i hi,aB,bX rfl,cond_false,bD (show i<1000000000 by omega)])
 rw [show (l,l,(0:Int))=(l,l,((0:Nat):Int)) from rfl,this];refine aO ?_;unfold mN;simp only [aE,aM (show¬(l.length:Int)<(l.length:Int) by omega),cond_false]
theorem LR (l:List (Int×Int)) (hl:l.length<=1048576):iT l l=some true:=by
 unfold iT;rw [bX rfl,cond_false]
 have:=eG (body:=kX) (fun i=>(l,l,(i:Int))) l.length (fun i hi=>by
  unfold kX;simp only [aE,aR (show (i:Int)<(l.length:Int) by omega),cond_true,aC l i hi,aB,fM rfl,Bool.and_self,Bool.not_true,cond_false,bD (show i<1000000000 by omega)])
 rw [show (l,l,(0:Int))=(l,l,((0:Nat):Int)) from rfl,this];refine aO ?_;unfold kX;simp only [aE,aM (show¬(l.length:Int)<(l.length:Int) by omega),cond_false]
theorem XZ {k:dN} (sh:AJ k.clock) (hl:k.heap.length<=1000000):zH k k=some true:=by
 unfold zH;rw [UE sh,aB,cond_true,aAR _ hl,aB]
theorem UH (k:dN):rX k=some true\/(rX k=some false/\AJ k.clock/\k.heap.length<=70):=by
 unfold rX
 rcases SC k.clock with e|⟨e,sh⟩
 · rw [e];exact .inl rfl
 rw [e,aB,cond_false,aE]
 by_cases h:70<k.heap.length
 · rw [aR (by omega)];exact .inl rfl
 · rw [aM (by omega)];exact .inr ⟨rfl,sh,by omega⟩
end Go.Proofs.YtfejhjllooomlaaGreat
namespace Go.Proofs.YtfejhjllooomlaaGreat
open Go.Vm Classical
theorem M9 {l:List Int} {x:Int} (hl:l.length<=1000000) (hx:x∈l): ∃k,k<l.length/\l[k]! =x/\fY l x=some (k:Int)/\RF l x=some (k:Int):=by
 obtain ⟨k,k1,k2,k3⟩:=HK (c:=fun k=>l[k]! =x) (aY.1 hx)
 have p:=jC (body:=oZ) (fun i=>(l,x,(i:Int))) l.length (fun i=>l[i]! =x) (fun i=>(i:Int)) (e:= -1) (fun i hi=>by
  unfold oZ;simp only [aE,aR (show (i:Int)<(l.length:Int) by omega),cond_true,aC l i hi,aB,bD (show i<1000000000 by omega)]
  refine ⟨fun h=>?_,fun h=>?_⟩
  · rw [fM h];rfl
  · rw [fR h];rfl) (by
  unfold oZ;simp only [aE,aM (show¬(l.length:Int)<(l.length:Int) by omega),cond_false])
 exact ⟨k,k1,k2,(LN l x hl).1 k k1 k2 k3,p.1 k k1 k2 k3⟩
end Go.Proofs.YtfejhjllooomlaaGreat
namespace Go.Proofs.YtfejhjllooomlaaGreat
open Go.Vm Classical
def EG (c:aH) (to:Int×Int):Prop:=0<c.agenda.heap.length/\fC (Ev.at c.agenda.heap[0]!) to<=0
theorem FY {c:aH} (ok:aZ c) {to:Int×Int} (rt:bF to) (r64:lO to) (le: ¬fC to c.now<0):rU c to=some (decide (EG c to),0):=by
 unfold rU;rw [mH ok.fit,if_pos ok,aB,eL r64,if_pos rt,aB,bX (by decide),cond_false,KQ r64 ok.now64,if_pos ⟨rt,ok.nowv⟩,aB,aM le,cond_false]
 unfold D5;rw [iU _ ok.fit.ag,if_pos ok.agd,aB,bX rfl,cond_false]
 by_cases h:0<c.agenda.heap.length
 · have ev:=ok.agd.ev 0 h
   have g:=aC c.agenda.heap 0 h;rw [show ((0:Nat):Int)=0 from rfl] at g;rw [fR (by rw [aE];omega),cond_false,g,aB,aB,bX rfl,cond_false,KQ ev.2.1 r64,if_pos ⟨ev.1,rt⟩,aB]
   congr 2
   by_cases h2:fC (Ev.at c.agenda.heap[0]!) to<=0
   · rw [aR (show EG c to from ⟨h,h2⟩),aR h2]
   · rw [aM (fun k:EG c to=>h2 k.2),aM h2]
 · rw [fM (by rw [aE];omega),cond_true,aB,aM (fun k:EG c to=>h k.1)]
   rfl
theorem SI {c:aW} (ok:dZ c) {i:Nat} (hi:i<c.list.length):RE c (c.list[i]!).1=some (i:Int):=by
 have hl:=ok.len;have k:=jC (body:=vQ) (fun j=>((c.list[i]!).1,(j:Int),c.next_,c.list)) c.list.length (fun j=>(c.list[j]!).1=(c.list[i]!).1) (fun j=>(j:Int)) (e:= -1) (fun j hj=>by
  unfold vQ;simp only [aE,aR (show (j:Int)<(c.list.length:Int) by omega),cond_true,aC c.list j hj,aB,bD (show j<1000000000 by omega)]
  refine ⟨fun h=>?_,fun h=>?_⟩
  · rw [fM h];rfl
  · rw [fR h];rfl) (by
  unfold vQ;simp only [aE,aM (show¬(c.list.length:Int)<(c.list.length:Int) by omega),cond_false])
 exact k.1 i hi rfl fun j hj e=>by have:=ok.up j i hj hi;omega
abbrev G5 (c:aH) (t:Int×Int):aH:=⟨t,c.field,c.certs,c.agenda,c.due⟩
theorem aAS {c:aH} (ok:aZ c) {to:Int×Int} (rt:bF to) (r64:lO to) (le: ¬fC to c.now<0) (due:EG c to):
 ∃(x:Int×Int) (c1:aH),gT c to=some (c1,c.agenda.heap[0]!,x,0)/\FL c=some (c1,c.agenda.heap[0]!,x)/\aZ c1/\c1.field=c.field/\lI c.field.points x/\jL c1=jL c+1/\c1.now=Ev.at c.agenda.heap[0]!:=by
 obtain ⟨i,c',hi,num,r1,r2,ok1,hf,hc,_⟩:=EE ok due.1;have g:=aC c.agenda.heap 0 due.1;rw [show ((0:Nat):Int)=0 from rfl] at g;have hcl:c'.certs.list.length=c.certs.list.length-1:=by
  rw [hc];exact List.length_eraseIdx_of_lt hi
 have hcn:c'.certs.next_=c.certs.next_:=by rw [hc];rfl
 refine ⟨(c.certs.list[i]!).2,G5 c' (Ev.at c.agenda.heap[0]!),?_,?_,ok1,hf,ok.known i hi,?_,rfl⟩
 · unfold gT
   rw [FY ok rt r64 le,aB,fM rfl,cond_true,aR due,Bool.not_true,cond_false,bX rfl,cond_false,g,aB,r1,aB,bX rfl,cond_false]
 · unfold FL
   rw [g,aB,show (c.agenda.heap[0]!).2.2.1=(c.certs.list[i]!).1 from num.symm,SI ok.crt hi,aB,aC c.certs.list i hi,aB,num,r2,aB]
 · unfold jL
   show c'.certs.next_- (c'.certs.list.length:Int)=_;rw [hcl,hcn];omega
theorem aAT {c:aH} (ok:aZ c) {to:Int×Int} (rt:bF to) (r64:lO to) (le: ¬fC to c.now<0) (due: ¬EG c to):gT c to=some (fQ,(0,0,0,0,0),(0,0),6):=by
 unfold gT;rw [FY ok rt r64 le,aB,fM rfl,cond_true,aM due];rfl
theorem aGG {c:aH} (ok:aZ c) {to:Int×Int} (rt:bF to) (r64:lO to) (le: ¬fC to c.now<0) (due: ¬EG c to):yZ c to=some (G5 c to,0):=by
 unfold yZ;rw [FY ok rt r64 le,aB,fM rfl,cond_true,aM due,cond_false,bX rfl,cond_false,gC ok,aB]
theorem X0 {c:aH} (ok:aZ c) (l:List Int) {to:Int×Int} (rt:bF to) (r64:lO to) (le: ¬fC to c.now<0) (due: ¬EG c to):dE ⟨c,l⟩ to=some (⟨fQ,[]⟩,(0,0),6):=by
 unfold dE;rw [aAT ok rt r64 le due,aB];rfl
def aP (c:aH) (l:List Int) (to:Int×Int) (out:List (Int×Int)):=
 (c.now.1,c.now.2,c.field.points,c.certs.next_,c.certs.list,c.agenda.slots.uses,c.agenda.slots.used,c.agenda.slots.free,c.agenda.heap,c.agenda.where_,c.due,l,to.1,to.2,(0:Int),(0:Int),(0:Int),out)
theorem tN {c:aH} (ok:aZ c): -200<=jL c/\jL c<=1000000:=by
 have h1:=ok.crt.len;have h2:=ok.crt.n0;have h3:=ok.crt.n1;unfold jL;omega
end Go.Proofs.YtfejhjllooomlaaGreat
namespace Go.Proofs.YtfejhjllooomlaaGreat
open Go.Vm Classical
end Go.Proofs.YtfejhjllooomlaaGreat
namespace Go.Proofs.YtfejhjllooomlaaGreat
open Go.Vm Classical
theorem NA {c:aH} (ok:aZ c) {to:Int×Int} (rt:bF to) (due: ¬EG c to) {y:sH} (hy:y∈c.certs.list) (is:(bG c.field.points y.2 c.now).2=true):
 to.1*(bG c.field.points y.2 c.now).1.2<(bG c.field.points y.2 c.now).1.1*to.2:=by
 obtain ⟨d,hd,_,ev⟩:=ok.fol.has _ hy is;obtain ⟨v,hv,he⟩:=aY.1 ev;have tl:=M7 ok.agd v hv;have h0:0<c.agenda.heap.length:=by omega
 have e0:=(ok.agd.ev 0 h0).1.1;have ev':=(ok.agd.ev v hv).1.1;rw [he] at tl ev';have n1: ¬fC (bG c.field.points y.2 c.now).1 (Ev.at c.agenda.heap[0]!)<0:=fun q=>tl (.inl q)
 rw [tJ] at n1;have n2: ¬fC (Ev.at c.agenda.heap[0]!) to<=0:=fun q=>due ⟨h0,q⟩
 have n3:to.1*(Ev.at c.agenda.heap[0]!).2<(Ev.at c.agenda.heap[0]!).1*to.2:=by
  unfold fC at n2;rcases dI ((Ev.at c.agenda.heap[0]!).1*to.2) (to.1*(Ev.at c.agenda.heap[0]!).2) with ⟨a,b⟩|⟨a,b⟩|⟨a,b⟩<;>omega
 exact DB rt.1 e0 ev' n3 (Int.not_lt.1 n1)
theorem aAU {c:aH} (ok:aZ c) {to:Int×Int} (rt:bF to) (r64:lO to) (le: ¬fC to c.now<0) (due: ¬EG c to):aZ (G5 c to):=by
 have pt:=fun (x:Int×Int) (hb:lI c.field.points x)=>And.intro (eN ok.fld hb.2).1 (eN ok.fld hb.1).1
 refine ⟨rt,r64,ok.fld,ok.crt,ok.agd,ok.w200,ok.hd,ok.known,?_⟩;refine aX.time (t:=c.now) (fun y hy=>?_) ok.fol
 obtain ⟨j,hj,rfl⟩:=aY.1 hy;have hb:=ok.known j hj;refine ED (pt _ hb).1 (pt _ hb).2 ok.nowv rt (by rw [tJ] at le;exact Int.not_lt.1 le) (fun is=>?_)
 exact Int.le_of_lt (NA ok rt due hy is)
theorem aAV {h l:Pt} {t t':Int×Int} (hh:fS h) (hl:fS l) (r:bF t) (r':bF t') (le:t.1*t'.2<=t'.1*t.2) (nf:(lH h l t).2=true->t'.1*(lH h l t).1.2<(lH h l t).1.1*t'.2): ¬fN l h t':=by
 have mv:=ED hh hl r r' le (fun is=>Int.le_of_lt (nf is))
 intro hn;have e:lH h l t'=(t',true):=by unfold lH;rw [if_pos hn]
 rw [e] at mv
 have:=nf (by rw [<- mv])
 rw [<- mv] at this;dsimp only at this;omega
theorem aGH {c:aH} {s:Int×Int} (h1:gS c=some c) (h2:gS (G5 c s)=some (G5 c s)) {n:Int} {c':aH} {x:Int×Int} (h:fX c n=some (c',x,0)):fX (G5 c s) n=some (G5 c' s,x,0):=by
 unfold fX at h ⊢;rw [h1] at h;rw [h2];dsimp only at h ⊢;cases e0:rR c.certs n with
 |none=>rw [e0] at h;cases h
 |some a0=>
  rw [e0,aB] at h;rw [aB];cases e1:(a0.2.2 !=0) with
  |true=>
   rw [e1,cond_true] at h;injection h with h
   have:a0.2.2=0:=by rw [(Prod.mk.inj h).2]
   rw [bX this] at e1;cases e1
  |false=>
   rw [e1,cond_false,aB] at h;rw [cond_false,aB];cases e2:mA c.due n with
   |none=>rw [e2] at h;cases h
   |some a2=>
    rw [e2,aB] at h;rw [aB];cases e3:a2.2 with
    |false=>
     rw [e3,cond_false] at h;rw [cond_false];injection h with h;obtain ⟨ha,hb⟩:=Prod.mk.inj h;rw [<- ha,<- hb]
    |true=>
     rw [e3,cond_true] at h;rw [cond_true];cases e4:aL c.due a2.1 with
     |none=>rw [e4] at h;cases h
     |some a3=>
      rw [e4,aB] at h;rw [aB];cases e5:jE c.agenda a3.2 with
      |none=>rw [e5] at h;cases h
      |some a4=>
       rw [e5,aB] at h;rw [aB];cases e6:(a4.2.2 !=0) with
       |true=>
        rw [e6,cond_true] at h;injection h with h
        have:a4.2.2=0:=(Prod.mk.inj (Prod.mk.inj h).2).2
        rw [bX this] at e6;cases e6
       |false=>
        rw [e6,cond_false] at h;rw [cond_false];cases e7:hO (a2.1,aA .i64 (a2.1+1),c.due) with
        |none=>rw [e7] at h;cases h
        |some a5=>
         rw [e7,aB] at h;rw [aB];injection h with h;obtain ⟨ha,hb⟩:=Prod.mk.inj h;rw [<- ha,<- hb]
theorem FZ {c:aH} (ok:aZ c) {to:Int×Int} (rt:bF to) (r64:lO to) (le: ¬fC to c.now<0) (due:EG c to) {c':aH} {x:Int×Int} (hd:fX c (Ev.num c.agenda.heap[0]!)=some (c',x,0)):
 gT c to=some (G5 c' (Ev.at c.agenda.heap[0]!),c.agenda.heap[0]!,x,0):=by
 have g:=aC c.agenda.heap 0 due.1;rw [show ((0:Nat):Int)=0 from rfl] at g;unfold gT;rw [FY ok rt r64 le,aB,fM rfl,cond_true,aR due,Bool.not_true,cond_false,bX rfl,cond_false,g,aB,hd,aB,bX rfl,cond_false]
theorem LS {c:aH} (ok:aZ c) (l:List Int) {s t:Int×Int} (rs:bF s) (s64:lO s) (rt:bF t) (t64:lO t) (les: ¬fC s c.now<0) (let_: ¬fC t c.now<0) (ds:EG c s) (dt:EG c t):dE ⟨c,l⟩ s=dE ⟨c,l⟩ t:=by
 obtain ⟨i,c',_,_,h,_⟩:=EE ok ds.1;unfold dE;rw [show gT (dN.mk c l).clock s=_ from FZ ok rs s64 les ds h,show gT (dN.mk c l).clock t=_ from FZ ok rt t64 let_ dt h]
theorem aAW {c:aH} (ok:aZ c) (l:List Int) {s t:Int×Int} (oks:aZ (G5 c s)) (rt:bF t) (t64:lO t) (le: ¬fC t c.now<0) (les: ¬fC t s<0) (dt:EG c t):dE ⟨G5 c s,l⟩ t=dE ⟨c,l⟩ t:=by
 obtain ⟨i,c',_,_,h,_⟩:=EE ok dt.1;have h2:=aGH (s:=s) (gC ok) (gC oks) h;have dt2:EG (G5 c s) t:=dt;unfold dE;rw [show gT (dN.mk c l).clock t=_ from FZ ok rt t64 le dt h,show gT (dN.mk (G5 c s) l).clock t=_ from FZ oks rt t64 les dt2 h2]
theorem NB {α:Type} [BEq α] [LawfulBEq α]: ∀{a b:List α},a.Nodup->(∀x∈a,x∈b)->a.length<=b.length
 | [],_,_,_=>Nat.zero_le _
 |x::a,b,hd,h=>by
  rw [List.nodup_cons] at hd;have hx:=h x List.mem_cons_self
  have:=NB (a:=a) (b:=b.erase x) hd.2 (fun y hy=>by
   rw [List.mem_erase_of_ne (fun e=>hd.1 (by rw [<- e];exact hy))]
   exact h y (List.mem_cons_of_mem _ hy))
  rw [List.length_erase_of_mem hx] at this
  have:=List.length_pos_of_mem hx
  rw [List.length_cons];omega
theorem UI {α:Type} [BEq α] [LawfulBEq α] {a b:List α} (ha:a.Nodup) (hb:b.Nodup) (h1: ∀x∈a,x∈b) (h2: ∀x∈b,x∈a):a.Perm b:=qI ha h1 (NB hb h2)
structure IG (c:aH) (l:List Int):Prop where
 ok:aZ c
 pm:(BW c.field.points).Perm l
 ct:(c.certs.list.map fun x=>x.2).Perm (dL l)
theorem IG.bd {c:aH} {l:List Int} (h:IG c l):l.length<=64:=by
 have:=h.ok.bd
 have:l.length=c.field.points.length:=by rw [<- h.pm.length_eq];exact List.length_map ..
 omega
theorem xU {c:aH} {l:List Int} (h:IG c l) {to:Int×Int} (rt:bF to) (r64:lO to) (le: ¬fC to c.now<0) (due:EG c to):
 (∃x c2 l2,dE ⟨c,l⟩ to=some (⟨c2,l2⟩,x,0)/\IG c2 l2/\c2.now=Ev.at c.agenda.heap[0]!/\jL c+1<=jL c2/\ ¬fC to c2.now<0)\/(∃x l2,dE ⟨c,l⟩ to=some (⟨fQ,l2⟩,x,18)):=by
 have ok:=h.ok;have pm:=h.pm;obtain ⟨x,c1,f1,_,ok1,hf,hb,hr,hn⟩:=aAS ok rt r64 le due;have bd:=h.bd;obtain ⟨i,i1,i2,i3,_⟩:=M9 (l:=l) (by omega) (pm.mem_iff.1 (vV.2 hb.1))
 obtain ⟨j,j1,j2,j3,_⟩:=M9 (l:=l) (by omega) (pm.mem_iff.1 (vV.2 hb.2))
 have pm':(BW c.field.points).Perm (BY l i j):=pm.trans (M8 i1 j1).symm;have sl:(BY l i j).length=l.length:=(M8 i1 j1).length_eq;have fok:=ok1.fld;obtain ⟨r,r1,_,r3⟩:=aGC ok1 fok (es:=dL (BY l i j)) (UG fok (by rw [hf];exact pm'))
 have ev:dE ⟨c,l⟩ to=some (⟨r.1,BY l i j⟩,x,r.2):=by
  unfold dE;rw [f1,aB,bX rfl,cond_false,bI (show l.length<=1048576 by omega),aB,i3,aB,j3,aB,aC l j j1,aB,aC l i i1,aB,aB]
  rw [sF,aC _ j (by rw [List.length_set];exact j1),aB,sF]
  show (lY (BY l i j)).bind _=_;rw [LM _ (by omega),aB]
  show (nY c1 ⟨c1.field.points⟩ (dL (BY l i j))).bind _=_;rw [r1,aB];rfl
 rcases r3 with ⟨q,k⟩|e
 · left
   rw [q] at ev;have nd:=pm'.nodup_iff.1 (xT ok.fld.2.2);have sub: ∀z∈(r.1.certs.list.map fun x=>x.2),z∈dL (BY l i j):=fun z hz=>by
    obtain ⟨y,hy,rfl⟩:=List.mem_map.1 hz;exact k.sub y hy
   have has: ∀z∈dL (BY l i j),z∈(r.1.certs.list.map fun x=>x.2):=fun z hz=>uS.1 (k.has z hz)
   have cn:=HV k.ok.crt;refine ⟨x,r.1,BY l i j,ev,⟨k.ok,by rw [k.fld,hf];exact pm',UI cn (HU nd) sub has⟩,by rw [k.now,hn],by have:=k.room;omega,fun hx=>?_⟩
   have h2:=due.2;rw [k.now,hn,tJ] at hx
   have: ¬0<fC (Ev.at c.agenda.heap[0]!) to:=by omega
   unfold fC at this;rcases dI ((Ev.at c.agenda.heap[0]!).1*to.2) (to.1*(Ev.at c.agenda.heap[0]!).2) with ⟨a,b⟩|⟨a,b⟩|⟨a,b⟩<;>omega
 · right
   rw [e] at ev;exact ⟨x,_,ev⟩
end Go.Proofs.YtfejhjllooomlaaGreat
namespace Go.Proofs.YtfejhjllooomlaaGreat
open Go.Vm Classical
noncomputable abbrev sI (to:Int×Int) (c:aH) (l:List Int) (out:List (Int×Int)):=aJ jZ (aP c l to out)
abbrev SJ:dN×List (Int×Int)×Int:=(⟨fQ,[]⟩,[],18)
theorem CQ {c c2:aH} {l l2:List Int} {to x:Int×Int} {out:List (Int×Int)} (ev:dE ⟨c,l⟩ to=some (⟨c2,l2⟩,x,0)) (ol:out.length+1<=1048576):sI to c l out=sI to c2 l2 (out++[x]):=by
 have ceta:(aH.mk (c.now.1,c.now.2) (Field.mk c.field.points) (aW.mk c.certs.next_ c.certs.list) (aG.mk (aS.mk c.agenda.slots.uses c.agenda.slots.used c.agenda.slots.free) c.agenda.heap c.agenda.where_) c.due)=c:=rfl;have ap:bR out [x]=some (out++[x]):=eU (by rw [List.length_singleton];omega)
 refine bC ?_;unfold jZ aP;simp only [ceta,show ((to.1,to.2):Int×Int)=to from rfl,ev,aB,show ((0:Int)==6)=false from rfl,cond_false,show ((0:Int) !=0)=false from rfl,ap]
theorem sJ {c:aH} {l l2:List Int} {to x:Int×Int} (out:List (Int×Int)) (ev:dE ⟨c,l⟩ to=some (⟨fQ,l2⟩,x,18)):sI to c l out=some SJ:=by
 have ceta:(aH.mk (c.now.1,c.now.2) (Field.mk c.field.points) (aW.mk c.certs.next_ c.certs.list) (aG.mk (aS.mk c.agenda.slots.uses c.agenda.slots.used c.agenda.slots.free) c.agenda.heap c.agenda.where_) c.due)=c:=rfl;refine aO ?_;unfold jZ aP
 simp only [ceta,show ((to.1,to.2):Int×Int)=to from rfl,ev,aB,show ((18:Int)==6)=false from rfl,cond_false,show ((18:Int) !=0)=true from rfl,cond_true]
theorem BZ {c:aH} (ok:aZ c) {l:List Int} (hl:l.length<=1000) {to:Int×Int} (rt:bF to) (r64:lO to) (le: ¬fC to c.now<0) (due: ¬EG c to) (out:List (Int×Int)):sI to c l out=some (⟨G5 c to,l⟩,out,0):=by
 have ceta:(aH.mk (c.now.1,c.now.2) (Field.mk c.field.points) (aW.mk c.certs.next_ c.certs.list) (aG.mk (aS.mk c.agenda.slots.uses c.agenda.slots.used c.agenda.slots.free) c.agenda.heap c.agenda.where_) c.due)=c:=rfl;refine aO ?_;unfold jZ aP
 simp only [ceta,show ((to.1,to.2):Int×Int)=to from rfl,X0 ok l rt r64 le due,aB,show ((6:Int)==6)=true from rfl,cond_true,aGG ok rt r64 le due,bI (show l.length<=1048576 by omega)]
theorem O0 {a b:Int×Int}: ¬fC a b<0↔b.1*a.2<=a.1*b.2:=by rw [tJ];omega
theorem aGI {a b:Int×Int}:fC a b<=0↔a.1*b.2<=b.1*a.2:=by
 unfold fC;rcases dI (a.1*b.2) (b.1*a.2) with ⟨x,y⟩|⟨x,y⟩|⟨x,y⟩<;>omega
theorem IX {a b c:Int×Int} (ha:bF a) (hb:bF b) (hc:bF c) (h1: ¬fC b a<0) (h2: ¬fC c b<0): ¬fC c a<0:=by
 rw [O0] at*;exact D9 ha.1 hb.1 hc.1 h1 h2
theorem EG.more {c:aH} (ok:aZ c) {s t:Int×Int} (rs:bF s) (rt:bF t) (st: ¬fC t s<0) (h:EG c s):EG c t:=by
 refine ⟨h.1,?_⟩;have e0:=(ok.agd.ev 0 h.1).1.1;have h2:=h.2;rw [aGI] at*;rw [O0] at st;exact D9 e0 rs.1 rt.1 h2 st
theorem O1 {p q:Pt} (t:Int×Int) (h:p.1≠q.1) (hn: ¬fN p q t):fN q p t:=by
 unfold fN at*;rw [IW,Int.sub_mul,Int.sub_mul] at*;generalize p.2.1*t.2=a at*;generalize p.2.2*t.1=b at*;generalize q.2.1*t.2=c at*;generalize q.2.2*t.1=d at*;omega
section
variable {s t : Int × Int}
theorem aAX (rs:bF s) (s64:lO s) (rt:bF t) (t64:lO t) (st: ¬fC t s<0): ∀(d:Nat) (c:aH) (l:List Int) (out:List (Int×Int)),1000000-jL c<=(d:Int)->IG c l-> ¬fC s c.now<0->(out.length:Int)<=jL c+200->
 (sI s c l out=some SJ/\sI t c l out=some SJ)\/
 ∃c2 l2 out2,sI s c l out=some (⟨G5 c2 s,l2⟩,out2,0)/\IG c2 l2/\ ¬fC s c2.now<0/\ ¬EG c2 s/\sI t c l out=sI t c2 l2 out2/\(out2.length:Int)<=jL c2+200:=by
 have stop: ∀(c:aH) (l:List Int) (out:List (Int×Int)),IG c l-> ¬fC s c.now<0->(out.length:Int)<=jL c+200-> ¬EG c s->
  ∃c2 l2 out2,sI s c l out=some (⟨G5 c2 s,l2⟩,out2,0)/\IG c2 l2/\ ¬fC s c2.now<0/\ ¬EG c2 s/\sI t c l out=sI t c2 l2 out2/\(out2.length:Int)<=jL c2+200:=fun c l out h le ho due=>
  ⟨c,l,out,BZ h.ok (by have:=h.bd;omega) rs s64 le due out,h,le,due,rfl,ho⟩
 intro d
 induction d with
 |zero=>
  intro c l out hd h le ho
  by_cases due:EG c s
  · have rb:=tN h.ok
    rcases xU h rs s64 le due with ⟨x,c2,l2,e1,e2,e3,e4,e5⟩|⟨x,l2,e1⟩
    · have:=tN e2.ok;omega
    · left
      have let_:=IX h.ok.nowv rs rt le st;have e2:=e1;rw [LS h.ok l rs s64 rt t64 le let_ due (due.more h.ok rs rt st)] at e2;exact ⟨sJ out e1,sJ out e2⟩
  · exact .inr (stop c l out h le ho due)
 |succ d ih=>
  intro c l out hd h le ho
  by_cases due:EG c s
  · have rb:=tN h.ok
    have let_:=IX h.ok.nowv rs rt le st;have es:=LS h.ok l rs s64 rt t64 le let_ due (due.more h.ok rs rt st);rcases xU h rs s64 le due with ⟨x,c2,l2,e1,e2,e3,e4,e5⟩|⟨x,l2,e1⟩
    · have e1':=e1
      rw [es] at e1';have g1:sI s c l out=_:=CQ e1 (by omega)
      have g2:sI t c l out=_:=CQ e1' (by omega)
      rw [g1,g2];exact ih c2 l2 (out++[x]) (by omega) e2 e5 (by rw [List.length_append,List.length_singleton];omega)
    · left
      have e2:=e1;rw [es] at e2;exact ⟨sJ out e1,sJ out e2⟩
  · exact .inr (stop c l out h le ho due)
theorem X1 (rt:bF t) (t64:lO t): ∀(d:Nat) (c:aH) (l:List Int) (p q:List (Int×Int)),1000000-jL c<=(d:Int)->IG c l-> ¬fC t c.now<0->((p++q).length:Int)<=jL c+200->
 ∃(h:dN) (n:List (Int×Int)) (e:Int),sI t c l q=some (h,n,e)/\sI t c l (p++q)=some (h,if e=0 then p++n else n,e)/\AJ h.clock/\h.heap.length<=1000/\((p++n).length:Int)<=1000200:=by
 have stop: ∀(c:aH) (l:List Int) (p q:List (Int×Int)),IG c l-> ¬fC t c.now<0->((p++q).length:Int)<=jL c+200-> ¬EG c t->
  ∃(h:dN) (n:List (Int×Int)) (e:Int),sI t c l q=some (h,n,e)/\sI t c l (p++q)=some (h,if e=0 then p++n else n,e)/\AJ h.clock/\h.heap.length<=1000/\((p++n).length:Int)<=1000200:=fun c l p q h le ho due=>by
  have bd:=h.bd;have rb:=tN h.ok;have sh:=h.ok.short;refine ⟨⟨G5 c t,l⟩,q,0,BZ h.ok (by omega) rt t64 le due q,?_,⟨sh.f,sh.l,sh.d,sh.h,sh.w,sh.s1,sh.s2,sh.s3⟩,by show l.length<=1000;omega,by omega⟩
  rw [if_pos rfl];exact BZ h.ok (by omega) rt t64 le due _
 have bad: ∀(c:aH) (l:List Int) (p q:List (Int×Int)) {x:Int×Int} {l2:List Int},IG c l->((p++q).length:Int)<=jL c+200->dE ⟨c,l⟩ t=some (⟨fQ,l2⟩,x,18)->
  ∃(h:dN) (n:List (Int×Int)) (e:Int),sI t c l q=some (h,n,e)/\sI t c l (p++q)=some (h,if e=0 then p++n else n,e)/\AJ h.clock/\h.heap.length<=1000/\((p++n).length:Int)<=1000200:=fun c l p q {x} {l2} h ho ev=>by
  have rb:=tN h.ok;refine ⟨⟨fQ,[]⟩,[],18,sJ q ev,?_,DF,Nat.zero_le _,by rw [List.append_nil];rw [List.length_append] at ho;omega⟩
  rw [if_neg (by decide)]
  exact sJ _ ev
 intro d
 induction d with
 |zero=>
  intro c l p q hd h le ho
  by_cases due:EG c t
  · rcases xU h rt t64 le due with ⟨x,c2,l2,e1,e2,e3,e4,e5⟩|⟨x,l2,e1⟩
    · have:=tN e2.ok;omega
    · exact bad c l p q h ho e1
  · exact stop c l p q h le ho due
 |succ d ih=>
  intro c l p q hd h le ho
  by_cases due:EG c t
  · have rb:=tN h.ok
    have hq:q.length<=(p++q).length:=by rw [List.length_append];omega
    rcases xU h rt t64 le due with ⟨x,c2,l2,e1,e2,e3,e4,e5⟩|⟨x,l2,e1⟩
    · have g1:sI t c l q=_:=CQ e1 (by omega)
      have g2:sI t c l (p++q)=_:=CQ e1 (by omega)
      rw [g1,g2,List.append_assoc];exact ih c2 l2 p (q++[x]) (by omega) e2 e5 (by rw [<- List.append_assoc,List.length_append,List.length_singleton];omega)
    · exact bad c l p q h ho e1
  · exact stop c l p q h le ho due
theorem B0 {k:dN} (n:UF k.clock) (sh:AJ k.clock) (hl:k.heap.length<=1000) (ok:BX k) {to:Int×Int} (rt:bF to) (r64:lO to) (le: ¬fC to k.clock.now<0):dC k to=sI to k.clock k.heap []:=by
 have c1:=LO ⟨n.now,⟨sh.s3,sh.h,sh.w,n.at64⟩,sh.d⟩ hl;rw [if_pos ok] at c1;unfold dC;rw [c1,aB,bX rfl,cond_false,eL r64,if_pos rt,aB,bX rfl,cond_false,KQ r64 n.now,if_pos ⟨rt,ok.clk.nowv⟩,aB,aM le];rfl
theorem aGJ {c:aH} {l:List Int} (h:IG c l) (rs:bF s) (s64:lO s) (le: ¬fC s c.now<0) (due: ¬EG c s):BX ⟨G5 c s,l⟩:=by
 have ok:=h.ok;have nd:=h.pm.nodup_iff.1 (xT ok.fld.2.2);refine ⟨aAU ok rs s64 le due,h.pm,h.ct,fun e he=>?_⟩
 obtain ⟨j,hj,hx⟩:=uS.2 (h.ct.mem_iff.2 he);have hb:=ok.known j hj;rw [hx] at hb;have p2:=eN ok.fld hb.2;have p1:=eN ok.fld hb.1;have nl: ¬fN (fU c.field.points e.1) (fU c.field.points e.2) s:=by
  refine aAV p2.1 p1.1 ok.nowv rs (by rw [O0] at le;exact le) fun is=>?_
  have:=NA ok rs due (bL hj)
  rw [hx] at this;exact this is
 exact O1 s (by rw [p1.2,p2.2];exact SG nd he) nl
theorem UJ {k:dN} (n:UF k.clock) (sh:AJ k.clock) (hl:k.heap.length<=1000) (ok:BX k) (rs:bF s) (s64:lO s) (rt:bF t) (t64:lO t) (ks: ¬fC s k.clock.now<0) (st: ¬fC t s<0):
 (dC k t=some SJ/\dC k s=some SJ)\/
 ∃(b c:dN) (m l:List (Int×Int)) (e:Int),dC k s=some (b,m,0)/\dC b t=some (c,l,e)/\dC k t=some (c,if e=0 then m++l else l,e)/\AJ c.clock/\c.heap.length<=1000/\m.length+l.length<=1000200:=by
 have rb:=tN ok.clk;have kt:=IX ok.clk.nowv rs rt ks st;rw [B0 n sh hl ok rt t64 kt,B0 n sh hl ok rs s64 ks];rcases aAX rs s64 rt t64 st (1000000-jL k.clock).toNat k.clock k.heap [] (by omega) ⟨ok.clk,ok.perm,ok.cert⟩ ks (by simp;omega) with ⟨h1,h2⟩|⟨c2,l2,out2,h1,h2,h3,h4,h5,h6⟩
 · exact .inl ⟨h2,h1⟩
 right;have bd:=h2.bd;have rb2:=tN h2.ok;have hb:=aGJ h2 rs s64 h3 h4;have okb:aZ (G5 c2 s):=hb.clk;have nb:UF (G5 c2 s):=⟨s64,fun w hw=>(h2.ok.agd.ev w hw).2.1⟩
 have ct2:=IX h2.ok.nowv rs rt h3 st;have av:dC ⟨G5 c2 s,l2⟩ t=sI t (G5 c2 s) l2 []:=B0 (k:=⟨G5 c2 s,l2⟩) nb okb.short (by show l2.length<=1000;omega) hb rt t64 st
 by_cases due:EG c2 t
 · have ea:=aAW h2.ok l2 okb rt t64 ct2 st due
   rcases xU h2 rt t64 ct2 due with ⟨x,c3,l3,e1,e2,e3,e4,e5⟩|⟨x,l3,e1⟩
   · have e1':=e1
     rw [<- ea] at e1';have g1:sI t (G5 c2 s) l2 []=_:=CQ e1' (by decide)
     have g2:sI t c2 l2 out2=_:=CQ e1 (by omega)
     obtain ⟨h,n',e,p1,p2,p3,p4,p5⟩:=X1 rt t64 (1000000-jL c3).toNat c3 l3 out2 [x] (by omega) e2 e5 (by rw [List.length_append,List.length_singleton];omega)
     refine ⟨⟨G5 c2 s,l2⟩,h,out2,n',e,h1,?_,?_,p3,p4,by rw [List.length_append] at p5;omega⟩
     · rw [av,g1];exact p1
     · rw [h5,g2];exact p2
   · have e1':=e1
     rw [<- ea] at e1';refine ⟨⟨G5 c2 s,l2⟩,⟨fQ,[]⟩,out2,[],18,h1,?_,?_,DF,Nat.zero_le _,by simp;omega⟩
     · rw [av];exact sJ [] e1'
     · rw [h5,if_neg (by decide)];exact sJ out2 e1
 · have sh2:=h2.ok.short
   refine ⟨⟨G5 c2 s,l2⟩,⟨G5 c2 t,l2⟩,out2,[],0,h1,?_,?_,⟨sh2.f,sh2.l,sh2.d,sh2.h,sh2.w,sh2.s1,sh2.s2,sh2.s3⟩,by show l2.length<=1000;omega,by simp;omega⟩
   · rw [av];exact BZ okb (by omega) rt t64 st due []
   · rw [h5,if_pos rfl,List.append_nil];exact BZ h2.ok (by omega) rt t64 ct2 due out2
end
end Go.Proofs.YtfejhjllooomlaaGreat
namespace Go.Proofs.YtfejhjllooomlaaGreat
open Go.Vm Classical
theorem aGK {s t:Int×Int} (s64:lO s) (t64:lO t):zD s t=some (if bF s/\bF t then 0 else 8):=by
 unfold zD
 by_cases rs:bF s
 · rw [mE s64,if_pos rs,aB,bX rfl,cond_false,mE t64,aB]
   by_cases rt:bF t
   · rw [if_pos rt,if_pos ⟨rs,rt⟩]
   · rw [if_neg rt,if_neg fun h=>rt h.2]
 · rw [mE s64,if_neg rs,aB,if_neg fun h=>rs h.1];rfl
theorem AM (k:dN) (s t:Int×Int) (n:UF k.clock) (s64:lO s) (t64:lO t):pY k s t=some true:=by
 unfold pY;rw [aB];rcases UH k with e|⟨e,sh,hl⟩
 · rw [e];rfl
 rw [e,aB,cond_false];unfold D6;rw [aB];cases decide (10<Int.ofNat k.clock.field.points.length) with
 |true=>rfl
 |false=>
 rw [cond_false,LQ ⟨n.now,⟨sh.s3,sh.h,sh.w,n.at64⟩,sh.d⟩ (show k.heap.length<=1000 by omega),aB]
 by_cases ok:BX k
 case neg=>rw [if_neg ok];rfl
 rw [if_pos ok,bX rfl,cond_false,aGK s64 t64,aB]
 by_cases rr:bF s/\bF t
 case neg=>rw [if_neg rr];rfl
 obtain ⟨rs,rt⟩:=rr;rw [if_pos ⟨rs,rt⟩,bX rfl,cond_false,zM n.now s64,aB]
 by_cases l1:0<fC k.clock.now s
 · rw [aR l1];rfl
 rw [aM l1,cond_false,zM s64 t64,aB]
 by_cases l2:0<fC s t
 · rw [aR l2];rfl
 rw [aM l2,cond_false,Bool.not_true,cond_false];have ks: ¬fC s k.clock.now<0:=fun h=>l1 (by rw [tJ] at h;unfold fC;rcases dI (k.clock.now.1*s.2) (s.1*k.clock.now.2) with ⟨a,b⟩|⟨a,b⟩|⟨a,b⟩<;>omega)
 have st: ¬fC t s<0:=fun h=>l2 (by rw [tJ] at h;unfold fC;rcases dI (s.1*t.2) (t.1*s.2) with ⟨a,b⟩|⟨a,b⟩|⟨a,b⟩<;>omega)
 rcases UJ n sh (by omega) ok rs s64 rt t64 ks st with ⟨h1,h2⟩|⟨b,c,m,l,e,h1,h2,h3,h4,h5,h6⟩
 · rw [h1,aB,h2,aB];rfl
 · rw [h3,aB,h1,aB,bX rfl,cond_false,h2,aB,cond_true,fM rfl,cond_true,XZ h4 (by omega),aB,cond_true]
   by_cases e0:e=0
   · subst e0
     rw [bX rfl,cond_false,bI (show m.length<=1048576 by omega),aB,if_pos rfl]
     cases hm:l.isEmpty with
     |true=>
      rw [cond_true];rw [List.isEmpty_iff] at hm;subst hm;rw [List.append_nil,LR m (by omega),aB]
     |false=>
      rw [cond_false,eU (show m.length+l.length<=1048576 by omega),aB,LR (m++l) (by rw [List.length_append];omega),aB]
   · have:(e !=0)=true:=by simpa using e0
     rw [this];rfl
end Go.Proofs.YtfejhjllooomlaaGreat
namespace Go.Proofs.YtfejhjllooomlaaGreat
open Go.Vm Classical
theorem UF.of {c:aH} (h1:RT.wf [.i .i64,.i .i64] c.now) (h2: ∀a∈c.agenda.heap,RT.wf [.i .i64,.i .i64,.i .i64,.i .i64,.i .i64] a):UF c where
 now:=⟨BA h1.1,BA h1.2⟩
 at64 w hw:=by
  have:=h2 (c.agenda.heap[w]!) (by rw [getElem!_pos c.agenda.heap w hw];exact List.getElem_mem hw)
  exact ⟨BA this.1,BA this.2.1⟩
end Go.Proofs.YtfejhjllooomlaaGreat
