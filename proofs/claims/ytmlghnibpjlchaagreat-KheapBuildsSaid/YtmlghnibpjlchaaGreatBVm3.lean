/- The logical machine, part 3: SvOps1, SvOps2, SvOps3, SvOps4, SvNorm, SvCall, SvFp, SvRun, SvCon, SvLaw. -/
import Derived.Test.YtmlghnibpjlchaaGreatBVm2
/- Operation by operation: what the typed machine does, the logical machine does; the easy ones. -/
namespace Go.Vm
def gR.stoOf (s:List SB) (r:gR):List SB:=
 match r.wr with
 | []=>apS s r.news
 |w=>apS (FO (yN w) (qX w s)) r.news
structure gY (s:List SB) (ps:cL) (sr:gR) (pr:oD):Prop where
 rd:pr.rd=sr.rd
 fr:pr.fr=sr.fr
 wr:pr.wr.map (·.1)=yN sr.wr
 nw:vL pr.wr=true
 nl:pr.news.length=sr.news.length
 sto:cM (sr.stoOf s) (VV (gO pr.wr ps) pr.news)
 v:R (sr.stoOf s) sr.v pr.v
 fra:Fr (yN sr.wr) s (sr.stoOf s)
section
variable {s : List SB} {ps : cL}
theorem gY.val (hS:cM s ps) {v:SV} {p:PV} {rd fr:List Nat} (hv:R s v p):gY s ps {v,rd,fr} {v:=p,rd,fr} where
 rd:=rfl
 fr:=rfl
 wr:=rfl
 nw:=rfl
 nl:=rfl
 sto:=by simp only [gR.stoOf,lC,List.append_nil,gO,VV];exact hS
 v:=by simp only [gR.stoOf,lC,List.append_nil];exact hv
 fra:=by simp only [gR.stoOf,lC,List.append_nil];exact Fr.refl _ _
theorem gY.news (hS:cM s ps) {v:SV} {p:PV} {l:List SB} {q:cL} {rd:List Nat} (hl:q.length=l.length) (hb: ∀(j:Nat) (b:SB),l[j]? =some b-> ∃x,q[j]? =some x/\RB (s++l) b x) (hv:R (s++l) v p):
 gY s ps {v,news:=l,rd} {v:=p,news:=q,rd} where
 rd:=rfl
 fr:=rfl
 wr:=rfl
 nw:=rfl
 nl:=hl
 sto:=by simp only [gR.stoOf,lC,gO,rG];exact hS.app hl hb
 v:=by simp only [gR.stoOf,lC];exact hv
 fra:=by simp only [gR.stoOf,lC];exact Fr.app _ _ _
theorem gY.new (hS:cM s ps) {v:SV} {p:PV} {b:SB} {q:jZ} {rd:List Nat} (hb:RB (s++[b]) b q) (hv:R (s++[b]) v p):gY s ps {v,news:=[b],rd} {v:=p,news:=[q],rd}:=
 gY.news hS rfl (fun j x h=>by
  cases j with
  |zero=>simp at h;subst h;exact ⟨q,rfl,hb⟩
  |succ j=>simp at h) hv
def S1 (b0 b:SB):Prop:=
 match b0 with
 | .arr r l=>(∃l',b= .arr r l'/\l'.length=l.length)\/b= .dead
 | .dead=>b= .dead
 |_=>True
theorem Fr.set {t:Nat} {b0 b:SB} (h0:s[t]? =some b0) (hk:S1 b0 b):Fr [t] s (s.set t b):=fun u x hu=>by
 by_cases hut:t=u
 · subst hut
   rw [h0] at hu;injection hu with hu;subst hu;have hlt:=(List.getElem?_eq_some_iff.1 h0).1;have hb:(s.set t b)[t]? =some b:=by simp [hlt]
   cases b0 with
   |arr r l=>
    rcases hk with ⟨l',rfl,hl⟩|rfl
    · exact .inl ⟨l',hb,hl,fun h=>by simp [has] at h⟩
    · exact .inr hb
   |dead=>rw [show b= .dead from hk] at hb ⊢;exact hb
   |_=>trivial
 · have hb:(s.set t b)[u]? =some x:=by rw [List.getElem?_set];simp [hut,hu]
   cases x with
   |arr r l=>exact .inl ⟨l,hb,rfl,fun _=>rfl⟩
   |dead=>exact hb
   |_=>trivial
theorem cM.put (hS:cM s ps) {t:Nat} {b0 b:SB} {q:jZ} (h0:s[t]? =some b0) (hk:S1 b0 b) (hq:RB (FO [t] (s.set t b)) (ZQ [t] b) q):cM (FO [t] (s.set t b)) (ps.set t q) where
 len:=by simp [DE,hS.len]
 at_:=fun u x hu=>by
  have hlt:=(List.getElem?_eq_some_iff.1 h0).1;rw [vY] at hu
  by_cases hut:t=u
  · subst hut
    have hb:(s.set t b)[t]? =some b:=by simp [hlt]
    rw [hb] at hu;simp at hu;subst hu;exact ⟨q,by rw [List.getElem?_set];simp [hS.len,hlt],hq⟩
  · rw [List.getElem?_set] at hu
    simp only [hut,if_false,Option.map_eq_some_iff] at hu;obtain ⟨y,hy,rfl⟩:=hu;obtain ⟨q',h1,h2⟩:=hS.at_ u y hy;exact ⟨q',by rw [List.getElem?_set];simp [hut,h1],h2.fr (Fr.dg (Fr.set h0 hk))⟩
theorem gY.put (hS:cM s ps) {v:SV} {p:PV} {t:Nat} {b0 b:SB} {q:jZ} {l:List SB} {ql:cL} {rd:List Nat} (h0:s[t]? =some b0) (hk:S1 b0 b) (hq:RB (FO [t] (s.set t b)) (ZQ [t] b) q)
 (hl:ql.length=l.length) (hb: ∀(j:Nat) (x:SB),l[j]? =some x-> ∃y,ql[j]? =some y/\RB (FO [t] (s.set t b)++l) x y) (hv:R (FO [t] (s.set t b)++l) v p):
 gY s ps {v,wr:=[(t,b)],news:=l,rd} {v:=p,wr:=[(t,q)],news:=ql,rd} where
 rd:=rfl
 fr:=rfl
 wr:=rfl
 nw:=rfl
 nl:=hl
 sto:=by
  simp only [gR.stoOf,lC,gO,rG,yN,qX,DD];exact (hS.put h0 hk hq).app hl hb
 v:=by simp only [gR.stoOf,lC,yN,qX,DD];exact hv
 fra:=by
  simp only [gR.stoOf,lC,yN,qX,DD];exact (Fr.dg (Fr.set h0 hk)).trans (Fr.app _ _ _)
theorem gY.put0 (hS:cM s ps) {t:Nat} {b0 b:SB} {q:jZ} {rd:List Nat} (h0:s[t]? =some b0) (hk:S1 b0 b) (hq:RB (FO [t] (s.set t b)) (ZQ [t] b) q):
 gY s ps {v:= .undef,wr:=[(t,b)],rd} {v:= .undef,wr:=[(t,q)],rd}:=
 gY.put hS h0 hk hq rfl (fun j x h=>by simp at h) rfl
end
section
variable {R' ρ : Type} {w : R' -> ρ} {y : ρ}
theorem bI {α:Type} {x:Option α} {k:α->iC R'} (h:lI x k ρ w=some y): ∃a,x=some a/\k a ρ w=some y:=by
 cases x with
 |none=>cases h
 |some a=>exact ⟨a,rfl,h⟩
theorem cW {α:Type} {x:Option α} {k:α->iC R'} (h:nC x k ρ w=some y): ∃a,x=some a/\k a ρ w=some y:=QK h
theorem dU {c:Bool} {a b:iC R'} (h:fK c a b ρ w=some y):(c=true/\a ρ w=some y)\/(c=false/\b ρ w=some y):=QL h
theorem cJ {c:Bool} {a:iC R'} (h:(bif c then a else aN) ρ w=some y):c=true/\a ρ w=some y:=by
 cases c
 · cases h
 · exact ⟨rfl,h⟩
theorem vA {c:Bool} {a:iC R'} (h:(bif c then aN else a) ρ w=some y):c=false/\a ρ w=some y:=by
 cases c
 · exact ⟨rfl,h⟩
 · cases h
theorem gF {c:Bool} {a:iC R'} (h:fK c a aN ρ w=some y):c=true/\a ρ w=some y:=by
 rcases dU h with ⟨h1,h2⟩|⟨_,h2⟩
 · exact ⟨h1,h2⟩
 · cases h2
theorem vZ {c:Bool} {a:iC R'} (h:fK c aN a ρ w=some y):c=false/\a ρ w=some y:=by
 rcases dU h with ⟨_,h2⟩|⟨h1,h2⟩
 · cases h2
 · exact ⟨h1,h2⟩
end
def fZ {R':Type} (s:List SB) (ps:cL) (po:Option oD) (k:gR->iC R') (ρ:Type) (w:R'->ρ) (y:ρ):Prop:=
 ∃sr pr,po=some pr/\gY s ps sr pr/\k sr ρ w=some y
section
variable {R' ρ : Type} {w : R' -> ρ} {y : ρ} {s : List SB} {ps : cL} {e : SE} {pe : tB} {z : List Nat} {k : gR -> iC R'}
theorem fZ.val (hS:cM s ps) {po:Option oD} {v:SV} {p:PV} (h:k {v} ρ w=some y) (hp:po=some {v:=p}) (hv:R s v p):fZ s ps po k ρ w y:=
 ⟨_,_,hp,gY.val hS hv,h⟩
theorem fZ.rd (hS:cM s ps) {po:Option oD} {v:SV} {p:PV} {rd:List Nat} (h:k {v,rd} ρ w=some y) (hp:po=some {v:=p,rd}) (hv:R s v p):fZ s ps po k ρ w y:=
 ⟨_,_,hp,gY.val hS hv,h⟩
theorem lZ (hE:dB s e pe) {x:eO} {a:IntKind} {n:Int} (h:bK e x= .int a n):x.ev pe= .int a n:=by
 have:=dK hE x;rw [h] at this;exact this
theorem DF (hE:dB s e pe) {x:eO} {b:Bool} (h:bK e x= .bool b):x.ev pe= .bool b:=by
 have:=dK hE x;rw [h] at this;exact this
theorem U4 (hE:dB s e pe) {x:eO} {v:SV} (h:bK e x=v):R s v (x.ev pe):=by
 have:=dK hE x;rwa [h] at this
theorem N6 (k:IntKind):fX k k=true:=by cases k<;>rfl
theorem QU (hS:cM s ps) {op:BinOp} {a:IntKind} {m n:Int} (h:QN op a m n (ofV k) ρ w=some y): ∃p,M6 op a m n=some p/\fZ s ps (some {v:=p}) k ρ w y:=by
 cases op with
 |quo=>
  obtain ⟨h1,h2⟩:=vZ h;have hn:n≠0:=by intro e;subst e;cases h1
  exact ⟨_,by simp only [M6,if_neg hn],fZ.val hS h2 rfl rfl⟩
 |rem=>
  obtain ⟨h1,h2⟩:=vZ h;have hn:n≠0:=by intro e;subst e;cases h1
  exact ⟨_,by simp only [M6,if_neg hn],fZ.val hS h2 rfl rfl⟩
 |shl=>cases h
 |shr=>cases h
 |_=>exact ⟨_,rfl,fZ.val hS h rfl rfl⟩
theorem ZS (hE:dB s e pe) (hS:cM s ps) {op:BinOp} {a b:eO} (h:lJ e s z (.bin op a b) k ρ w=some y):fZ s ps (bC pe ps z (.bin op a b)) k ρ w y:=by
 simp only [lJ] at h;generalize ha:bK e a=va at h;cases va with
 |int ka m=>
  generalize hb:bK e b=vb at h;cases vb with
  |int kb n=>
   have h1:=lZ hE ha;have h2:=lZ hE hb;have key:(op≠ .shl)->(op≠ .shr)->(bif fX ka kb then QN op ka m n (ofV k) else aN) ρ w=some y->fZ s ps (bC pe ps z (.bin op a b)) k ρ w y:=by
    intro n1 n2 h;obtain ⟨hk,h⟩:=cJ h;obtain ⟨p,hp,hs⟩:=QU hS h
    have:bC pe ps z (.bin op a b)=some {v:=p}:=by
     simp only [bC,h1,h2];cases op<;>first|exact absurd rfl n1|exact absurd rfl n2|(simp only [UJ,hk,if_true,hp];rfl)
    rw [this];exact hs
   cases op with
   |shl=>
    obtain ⟨hc,h⟩:=vZ h;have hc': ¬n<0:=by simpa using hc
    exact fZ.val hS h (by simp only [bC,h1,h2,UJ,EB,if_neg hc'];rfl) rfl
   |shr=>
    obtain ⟨hc,h⟩:=vZ h;have hc': ¬n<0:=by simpa using hc
    exact fZ.val hS h (by simp only [bC,h1,h2,UJ,EB,if_neg hc'];rfl) rfl
   |_=>exact key (by intro e;cases e) (by intro e;cases e) h
  |_=>cases h
 |_=>cases h
theorem WX (hE:dB s e pe) (hS:cM s ps) {neg:Bool} {a b:eO} (h:lJ e s z (.binb neg a b) k ρ w=some y):fZ s ps (bC pe ps z (.binb neg a b)) k ρ w y:=by
 simp only [lJ] at h;generalize ha:bK e a=va at h;cases va with
 |bool x=>
  generalize hb:bK e b=vb at h;cases vb with
  |bool x'=>
   refine fZ.val hS h ?_ rfl;simp only [bC,DF hE ha,DF hE hb];cases neg<;>rfl
  |_=>cases h
 |_=>cases h
theorem WY: ∀{xs ys:List SV} {ps qs:List PV} {r:Bool},RL s xs ps->RL s ys qs->eqS xs ys=some r->cY ps qs=some r
 | [],[],ps,qs,r,h1,h2,h=>by rw [show ps=[] from h1,show qs=[] from h2];exact h
 |x::xs,b::ys,ps,qs,r,h1,h2,h=>by
  obtain ⟨p,ps,rfl,a1,a2⟩:=h1.cons_inv;obtain ⟨q,qs,rfl,b1,b2⟩:=h2.cons_inv;simp only [eqS] at h;split at h
  · rename_i ka m kb n
    have a1':p= .int ka m:=a1;have b1':q= .int kb n:=b1;subst a1' b1';cases hk:fX ka kb with
    |false=>rw [hk] at h;cases h
    |true=>
     rw [hk] at h;have hc:rU (.int ka m) (.int kb n)=some (m==n):=by simp only [rU,hk,if_true]
     simp only [cY,hc];cases xs with
     |nil=>
      cases ys with
      |nil=>
       simp only [cond_true,Option.some.injEq] at h;subst h;rw [show ps=[] from a2,show qs=[] from b2];cases m==n<;>rfl
      |cons _ _=>cases h
     |cons x2 xs2=>
      simp only [cond_true] at h;split at h
      · rename_i r' hr
        injection h with h;subst h;rw [WY a2 b2 hr];cases m==n<;>rfl
      · cases h
  · cases h
 | [],_::_,ps,qs,r,h1,h2,h=>by cases h
 |_::_,[],ps,qs,r,h1,h2,h=>by cases h
theorem ZT (hE:dB s e pe) (hS:cM s ps) {n:Nat} {neg:Bool} {a b:eO} (h:lJ e s z (.eqc n neg a b) k ρ w=some y):fZ s ps (bC pe ps z (.eqc n neg a b)) k ρ w y:=by
 simp only [lJ] at h;generalize ha:bK e a=va at h;cases va with
 |agg xs=>
  generalize hb:bK e b=vb at h;cases vb with
  |agg ys=>
   obtain ⟨hl,h⟩:=cJ h;obtain ⟨r,hr,h⟩:=bI h;obtain ⟨p,hp,h1⟩:=U4 hE ha;obtain ⟨q,hq,h2⟩:=U4 hE hb;refine fZ.val hS h ?_ rfl;simp only [bC,hp,hq,h1.length,h2.length];rw [if_pos hl,WY h1 h2 hr];cases neg<;>rfl
  |_=>cases h
 |_=>cases h
theorem aGE (hE:dB s e pe) (hS:cM s ps) {op:UnOp} {a:eO} (h:lJ e s z (.un op a) k ρ w=some y):fZ s ps (bC pe ps z (.un op a)) k ρ w y:=by
 simp only [lJ] at h;cases op with
 |neg=>
  dsimp only at h;generalize ha:bK e a=va at h;cases va with
  |int ka n=>exact fZ.val hS h (by simp only [bC,lZ hE ha];rfl) rfl
  |_=>cases h
 |not=>
  dsimp only at h;generalize ha:bK e a=va at h;cases va with
  |bool b=>exact fZ.val hS h (by simp only [bC,DF hE ha];rfl) rfl
  |_=>cases h
 |_=>cases h
theorem WZ (hE:dB s e pe) (hS:cM s ps) {a:IntKind} {x:eO} (h:lJ e s z (.conv a x) k ρ w=some y):fZ s ps (bC pe ps z (.conv a x)) k ρ w y:=by
 simp only [lJ] at h;generalize ha:bK e x=va at h;cases va with
 |int ka n=>exact fZ.val hS h (by simp only [bC,lZ hE ha]) rfl
 |_=>cases h
theorem ZU (hE:dB s e pe) (hS:cM s ps) {x:eO} (h:lJ e s z (.len x) k ρ w=some y):fZ s ps (bC pe ps z (.len x)) k ρ w y:=by
 simp only [lJ] at h;have hx:=dK hE x;generalize bK e x=v at h hx;cases v with
 |nil e' c=>exact fZ.val hS h (by simp only [bC,show x.ev pe= .sl e' c [] from hx];rfl) rfl
 |pre t len cap ex=>
  obtain ⟨e',hx,_⟩:=hx;exact fZ.val hS h (by simp only [bC,hx]) rfl
 |part t off len cap ex=>
  obtain ⟨e',hx,_⟩:=hx;exact fZ.val hS h (by simp only [bC,hx]) rfl
 |sl q m=>
  exact fZ.val hS h (by simp only [bC,show x.ev pe=_ from hx,List.length_map]) rfl
 |own t ex=>
  obtain ⟨c,hc,h⟩:=bI h;simp only [A3,cC] at hc;split at hc
  · rename_i q m hst
    injection hc with hc;subst hc;obtain ⟨e',n,hx,hat⟩:=hx;rcases hat with ⟨q',m',h1,rfl,rfl⟩|h1
    · rw [hst] at h1;injection h1 with h1;cases h1
      exact fZ.val hS h (by simp only [bC,hx]) rfl
    · rw [hst] at h1;cases h1
  · cases hc
 |_=>obtain ⟨c,hc,h⟩:=bI h;cases hc
theorem DG: ∀{l:List (Nat×Nat×SV)} {pl:List (Nat×Nat×PV)} {cs:List SV} {pc:List PV} {r:List SV},
 (pl.length=l.length/\ ∀(j:Nat) (a:Nat×Nat×SV),l[j]? =some a-> ∃b,pl[j]? =some (a.1,a.2.1,b)/\R s a.2.2 b)->RL s cs pc->vX l cs=some r-> ∃q,mE pl pc=some q/\RL s r q
 | [],pl,cs,pc,r,hl,hc,h=>by
  have:pl=[]:=List.length_eq_zero_iff.1 hl.1
  subst this;injection h with h;subst h;exact ⟨pc,rfl,hc⟩
 |(off,sz,v)::l,pl,cs,pc,r,hl,hc,h=>by
  cases pl with
  |nil=>simp at hl
  |cons p pl=>
   obtain ⟨b,h1,h2⟩:=hl.2 0 _ rfl;simp at h1;subst h1;simp only [vX] at h;split at h
   · rename_i w hw
     obtain ⟨q,hq,hqr⟩:=h2.stored hw;cases hcnd:(Nat.beq w.length sz&&Nat.ble (off+sz) cs.length) with
     |false=>rw [hcnd] at h;cases h
     |true=>
      rw [hcnd] at h;simp only [cond_true] at h;obtain ⟨q2,h3,h4⟩:=DG (pl:=pl) ⟨by simpa using hl.1,fun j a ha=>hl.2 (j+1) a (by simpa using ha)⟩ (zW hqr hc) h
      refine ⟨q2,?_,h4⟩;simp only [mE,hq,hqr.length,hc.length];rw [if_pos hcnd];exact h3
   · cases h
theorem N7 (hE:dB s e pe): ∀(l:List (Nat×Nat×eO)),((l.map fun p=>(p.1,p.2.1,p.2.2.ev pe)).length=(yL e l).length/\ ∀(j:Nat) (a:Nat×Nat×SV),(yL e l)[j]? =some a-> ∃b,(l.map fun p=>(p.1,p.2.1,p.2.2.ev pe))[j]? =some (a.1,a.2.1,b)/\R s a.2.2 b)
 | []=>⟨rfl,fun j a h=>by simp [yL] at h⟩
 |p::l=>by
  obtain ⟨h1,h2⟩:=N7 hE l;refine ⟨by simp [yL] at h1 ⊢;omega,fun j a h=>?_⟩
  cases j with
  |zero=>simp [yL] at h;subst h;exact ⟨_,rfl,dK hE _⟩
  |succ j=>simp only [yL,List.getElem?_cons_succ] at h;obtain ⟨b,h3,h4⟩:=h2 j a h;exact ⟨b,by simpa using h3,h4⟩
theorem U5 (hE:dB s e pe) (hS:cM s ps) {zero:List PV} {parts:List (Nat×Nat×eO)} (h:lJ e s z (.build zero parts) k ρ w=some y):fZ s ps (bC pe ps z (.build zero parts)) k ρ w y:=by
 simp only [lJ] at h;obtain ⟨cs,hc,h⟩:=bI h;obtain ⟨q,hq,hr⟩:=DG (N7 hE parts) (ofPVL_R s zero) hc;exact fZ.val hS h (by simp only [bC,hq];rfl) ⟨q,rfl,hr⟩
theorem ZV (hE:dB s e pe) (hS:cM s ps) {x:eO} (h:lJ e s z (.box x) k ρ w=some y):fZ s ps (bC pe ps z (.box x)) k ρ w y:=by
 simp only [lJ] at h;obtain ⟨cs,hc,h⟩:=bI h;obtain ⟨q,hq,hr⟩:=(dK hE x).stored hc;refine ⟨_,_,?_,gY.new hS (b:= .box cs) (q:= .box q) (v:= .bp s.length cs.length 0) (p:= .ptr s.length cs.length 0 0) (rd:=[]) ⟨q,rfl,hr.ext (Fr.app _ _ _)⟩ rfl,h⟩;simp only [bC,hq,hS.len,hr.length]
theorem U6 (hS:cM s ps) {cells:List PV} (h:lJ e s z (.alloc cells) k ρ w=some y):fZ s ps (bC pe ps z (.alloc cells)) k ρ w y:=by
 simp only [lJ] at h;refine ⟨_,_,?_,gY.new hS (b:= .box (ofPVL cells)) (q:= .box cells) (v:= .bp s.length cells.length 0) (p:= .ptr s.length cells.length 0 0) (rd:=[]) ⟨cells,rfl,ofPVL_R _ _⟩ rfl,h⟩;simp only [bC,hS.len]
theorem W0 (hE:dB s e pe) (hS:cM s ps) {x:eO} (h:lJ e s z (.nilc x) k ρ w=some y):fZ s ps (bC pe ps z (.nilc x)) k ρ w y:=by
 simp only [lJ] at h;have hx:=dK hE x;generalize bK e x=v at h hx;cases v with
 |pa t r i a o=>exact fZ.val hS h (by simp only [bC,hx.1]) ⟨rfl,hx.2⟩
 |pb t i o=>
  obtain ⟨e',h1,h2⟩:=hx;exact fZ.val hS h (by simp only [bC,h1]) ⟨e',rfl,h2⟩
 |bp t n o=>exact fZ.val hS h (by simp only [bC,show x.ev pe=_ from hx]) rfl
 |rptr c o=>
  obtain ⟨q,h1,h2⟩:=hx;exact fZ.val hS h (by simp only [bC,h1]) ⟨q,rfl,h2⟩
 |clo f a b=>
  obtain ⟨pa,pb,h1,h2⟩:=hx;exact fZ.val hS h (by simp only [bC,h1]) ⟨pa,pb,rfl,h2⟩
 |_=>cases h
theorem W3 (hE:dB s e pe) (hS:cM s ps) {off:Nat} {x:eO} (h:lJ e s z (.fadr off x) k ρ w=some y):fZ s ps (bC pe ps z (.fadr off x)) k ρ w y:=by
 simp only [lJ] at h;have hx:=dK hE x;generalize bK e x=v at h hx;cases v with
 |pa t r i a o=>exact fZ.val hS h (by simp only [bC,hx.1]) ⟨rfl,hx.2⟩
 |pb t i o=>
  obtain ⟨e',h1,h2⟩:=hx;exact fZ.val hS h (by simp only [bC,h1]) ⟨e',rfl,h2⟩
 |bp t n o=>exact fZ.val hS h (by simp only [bC,show x.ev pe=_ from hx]) rfl
 |rptr c o=>
  obtain ⟨q,h1,h2⟩:=hx;exact fZ.val hS h (by simp only [bC,h1]) ⟨q,rfl,h2⟩
 |_=>cases h
theorem ZW (hE:dB s e pe) (hS:cM s ps) {agg:Option Nat} {off:Nat} {x:eO} (h:lJ e s z (.fld agg off x) k ρ w=some y):fZ s ps (bC pe ps z (.fld agg off x)) k ρ w y:=by
 simp only [lJ] at h;generalize hv:bK e x=v at h;cases v with
 |agg cs=>
  obtain ⟨v,h1,h⟩:=bI h;obtain ⟨q,h2,h3⟩:=U4 hE hv;obtain ⟨p,h4,h5⟩:=tO h3 h1;exact fZ.val hS h (by simp only [bC,h2,h4];rfl) h5
 |_=>cases h
theorem ZX (hE:dB s e pe) (hS:cM s ps) {i:Nat} {x:eO} (h:lJ e s z (.ext i x) k ρ w=some y):fZ s ps (bC pe ps z (.ext i x)) k ρ w y:=by
 simp only [lJ] at h;generalize hv:bK e x=v at h;cases v with
 |tup cs=>
  obtain ⟨v,h1,h⟩:=bI h;obtain ⟨q,h2,h3⟩:=U4 hE hv;obtain ⟨p,h4,h5⟩:=h3.nth h1;exact fZ.val hS h (by simp only [bC,h2,h4];rfl) h5
 |_=>cases h
theorem ZY (hE:dB s e pe) (hS:cM s ps) {f:FuncId} {a b:List eO} (h:lJ e s z (.mkf f a b) k ρ w=some y):fZ s ps (bC pe ps z (.mkf f a b)) k ρ w y:=by
 simp only [lJ] at h;exact fZ.val hS h rfl ⟨_,_,rfl,zU hE a,zU hE b⟩
theorem ZZ (hS:cM s ps) (h:lJ e s z .mkm k ρ w=some y):fZ s ps (bC pe ps z .mkm) k ρ w y:=by
 simp only [lJ] at h;refine ⟨_,_,?_,gY.new hS (b:= .set []) (q:= .map []) (v:= .mp s.length) (p:= .mp s.length) (rd:=[]) rfl rfl,h⟩;simp only [bC,hS.len]
theorem aGi: ∀{l:List SV} {q:List PV} {m:Bool} {a:IntKind} {n:Int} {v:SV},RL s l q->mmS m a n l=some v-> ∃p,mmE m a n q=some p/\R s v p
 | [],q,m,a,n,v,hl,h=>by
  rw [show q=[] from hl];injection h with h;subst h;exact ⟨_,rfl,rfl⟩
 |x::l,q,m,a,n,v,hl,h=>by
  obtain ⟨p,q,rfl,h1,h2⟩:=hl.cons_inv;simp only [mmS] at h;split at h
  · rename_i b c
    have h1':p= .int b c:=h1;subst h1';cases hk:fX a b with
    |true=>
     rw [hk] at h;obtain ⟨p,h3,h4⟩:=aGi h2 h;refine ⟨p,?_,h4⟩;simp only [mmE,hk,if_true];rw [<- h3];cases m<;>rfl
    |false=>rw [hk] at h;cases h
  · cases h
theorem aGF (hE:dB s e pe) (hS:cM s ps) {m:Bool} {x:eO} {xs:List eO} (h:lJ e s z (.mm m x xs) k ρ w=some y):fZ s ps (bC pe ps z (.mm m x xs)) k ρ w y:=by
 simp only [lJ] at h;generalize hv:bK e x=v at h;cases v with
 |int a n=>
  obtain ⟨v,h1,h⟩:=bI h;obtain ⟨p,h2,h3⟩:=aGi (zU hE xs) h1;exact fZ.val hS h (by simp only [bC,lZ hE hv,h2];rfl) h3
 |_=>cases h
theorem W4 (hE:dB s e pe) (hS:cM s ps) {c a b:eO} (h:lJ e s z (.pick c a b) k ρ w=some y):fZ s ps (bC pe ps z (.pick c a b)) k ρ w y:=by
 simp only [lJ] at h;generalize hv:bK e c=v at h;cases v with
 |bool x=>
  rcases dU h with ⟨rfl,h⟩|⟨rfl,h⟩
  · exact fZ.val hS h (by simp only [bC,DF hE hv]) (dK hE a)
  · exact fZ.val hS h (by simp only [bC,DF hE hv]) (dK hE b)
 |_=>cases h
end
end Go.Vm
/- Operation by operation, second part: elements, blocks, slices, sets. -/
namespace Go.Vm
section
variable {R' ρ : Type} {w : R' -> ρ} {y : ρ} {s : List SB} {ps : cL} {e : SE} {pe : tB} {z : List Nat} {k : gR -> iC R'}
theorem cM.arr (hS:cM s ps) {t:Nat} {r:List PT} {l:List (RT r)} (h:s[t]? =some (.arr r l)):ps[t]? =some (.arr r.length (l.map (RT.pv r))):=by
 obtain ⟨q,h1,h2⟩:=hS.at_ t _ h;rw [show q=_ from h2] at h1;exact h1
theorem cM.box (hS:cM s ps) {t:Nat} {cs:List SV} (h:s[t]? =some (.box cs)): ∃q,ps[t]? =some (.box q)/\RL s cs q:=by
 obtain ⟨q,h1,q',rfl,h2⟩:=hS.at_ t _ h;exact ⟨q',h1,h2⟩
theorem cM.set_ (hS:cM s ps) {t:Nat} {l:List (List Int)} (h:s[t]? =some (.set l)):ps[t]? =some (.map (l.map DC)):=by
 obtain ⟨q,h1,h2⟩:=hS.at_ t _ h;rw [show q=_ from h2] at h1;exact h1
theorem WU.inv {t e n:Nat} {r:List PT} {l:List (RT r)} (h:WU s t e n) (hs:s[t]? =some (.arr r l)):e=r.length/\n=l.length:=by
 rcases h with ⟨q,m,h1,rfl,rfl⟩|h1
 · rw [hs] at h1;injection h1 with h1;cases h1;exact ⟨rfl,rfl⟩
 · rw [hs] at h1;cases h1
theorem A6.inv {t e:Nat} {r:List PT} {l:List (RT r)} (h:A6 s t e) (hs:s[t]? =some (.arr r l)):e=r.length:=by
 rcases h with ⟨q,m,h1,rfl⟩|h1
 · rw [hs] at h1;injection h1 with h1;cases h1;rfl
 · rw [hs] at h1;cases h1
theorem WV.inv {t:Nat} {q r:List PT} {i:Int} {a:RT q} {l:List (RT r)} (h:WV s t q i a) (hs:s[t]? =some (.arr r l)): ∃e:q=r,aL l i=some (e▸a):=by
 rcases h with ⟨m,h1,h2⟩|h1
 · rw [hs] at h1;injection h1 with h1;cases h1;exact ⟨rfl,h2⟩
 · rw [hs] at h1;cases h1
theorem aGD.inv {t:Nat} {r:List PT} {i:Int} {l:List (RT r)} (h:aGD s t i) (hs:s[t]? =some (.arr r l)):(aL l i).isSome=true:=by
 rcases h with ⟨q,m,h1,h2⟩|h1
 · rw [hs] at h1;injection h1 with h1;cases h1;exact h2
 · rw [hs] at h1;cases h1
theorem KE {α:Type} {l:List α} {n:Nat} {i:Int} {a:α} (h:aL (l.take n) i=some a): ∃m:Nat,i=Int.ofNat m/\m<n/\l[m]? =some a:=by
 obtain ⟨m,rfl,hm⟩:=mH h;have hlt:=(List.getElem?_eq_some_iff.1 hm).1;rw [List.length_take] at hlt;have hmn:m<n:=by omega
 rw [List.getElem?_take_of_lt hmn] at hm;exact ⟨m,rfl,hmn,hm⟩
theorem W5 (hE:dB s e pe) (hS:cM s ps) {esz:Nat} {x i:eO} (h:lJ e s z (.iadr esz x i) k ρ w=some y):fZ s ps (bC pe ps z (.iadr esz x i)) k ρ w y:=by
 simp only [lJ] at h;generalize hi:bK e i=vi at h;cases vi with
 |int ki n=>
  have hi:=lZ hE hi;have hx:=dK hE x;dsimp only at h;unfold aGb at h;generalize bK e x=v at h hx;cases v with
  |sl r l=>
   obtain ⟨he,h⟩:=cJ h;obtain ⟨a,ha,hk⟩:=cW h;obtain ⟨m,rfl,hm⟩:=mH ha;refine fZ.val hS (p:= .rptr (RT.pv r a) 0) hk ?_ ⟨_,rfl,KD r a⟩;have hr:(l.map (RT.pv r))[m]? =some (RT.pv r a):=by simp [hm]
   simp only [bC,hi,jP,show x.ev pe=_ from hx,hr,he,if_true]
  |own t ex=>
   simp only [cC] at h;generalize hst:s[t]? =b at h;cases b with
   |none=>cases h
   |some b=>
    cases b with
    |arr r l=>
     obtain ⟨he,h⟩:=cJ h;obtain ⟨a,ha,hk⟩:=cW h;obtain ⟨m,rfl,hm⟩:=mH ha;obtain ⟨e',n',hx,hat⟩:=hx;obtain ⟨rfl,rfl⟩:=hat.inv hst;have hlt:=(List.getElem?_eq_some_iff.1 hm).1;have h1:Nat.blt m l.length=true:=by simpa using hlt
     refine fZ.val hS (p:= .ptr t r.length m 0) hk ?_ ⟨rfl,.inl ⟨l,hst,ha⟩⟩;simp only [bC,hi,jP,hx,h1,he,Bool.and_self,if_true,Nat.zero_add]
    |_=>cases h
  |pre t len cap ex=>
   simp only [cC] at h;generalize hst:s[t]? =b at h;cases b with
   |none=>cases h
   |some b=>
    cases b with
    |arr r l=>
     obtain ⟨he,h⟩:=cJ h;obtain ⟨a,ha,hk⟩:=cW h;obtain ⟨m,rfl,hlt,hm⟩:=KE ha;obtain ⟨e',hx,hat⟩:=hx
     have:=hat.inv hst
     subst this;have h1:Nat.blt m len=true:=by simpa using hlt
     refine fZ.val hS (p:= .ptr t r.length m 0) hk ?_ ⟨rfl,.inl ⟨l,hst,hm⟩⟩;simp only [bC,hi,jP,hx,h1,he,Bool.and_self,if_true,Nat.zero_add]
    |_=>cases h
  |_=>cases h
 |_=>cases h
theorem B7 {n:Nat} {i:Int} {j:Nat} {f:Nat->iC R'}:NZ n i j f ρ w=some y-> ∃m,i=Int.ofNat m/\j<=m/\m<j+n/\f m ρ w=some y:=by
 induction n generalizing j with
 |zero=>intro h;cases h
 |succ n ih=>
  intro h;rcases dU h with ⟨h1,h2⟩|⟨_,h2⟩
  · exact ⟨j,by simpa using h1,Nat.le_refl _,by omega,h2⟩
  · obtain ⟨m,h3,h4,h5,h6⟩:=ih h2
    exact ⟨m,h3,by omega,by omega,h6⟩
theorem U7 (hE:dB s e pe) (hS:cM s ps) {n esz:Nat} {p i:eO} (h:lJ e s z (.iadra n esz p i) k ρ w=some y):fZ s ps (bC pe ps z (.iadra n esz p i)) k ρ w y:=by
 simp only [lJ] at h;generalize hi:bK e i=vi at h;cases vi with
 |int ki j=>
  have hi:=lZ hE hi;have hx:=dK hE p;generalize bK e p=v at h hx;cases v with
  |bp t m o=>
   obtain ⟨j',rfl,_,h2,h⟩:=B7 h;have h1:Nat.blt j' n=true:=by simp;omega
   exact fZ.val hS h (by simp only [bC,hi,jP,h1,if_true,show p.ev pe=_ from hx]) rfl
  |rptr c o=>
   obtain ⟨j',rfl,_,h2,h⟩:=B7 h;have h1:Nat.blt j' n=true:=by simp;omega
   obtain ⟨q,hq,hr⟩:=hx;exact fZ.val hS h (by simp only [bC,hi,jP,h1,if_true,hq]) ⟨q,rfl,hr⟩
  |_=>cases h
 |_=>cases h
theorem Z0 (hE:dB s e pe) (hS:cM s ps) {n esz:Nat} {agg:Option Nat} {x i:eO} (h:lJ e s z (.idx n esz agg x i) k ρ w=some y):fZ s ps (bC pe ps z (.idx n esz agg x i)) k ρ w y:=by
 simp only [lJ] at h;generalize hi:bK e i=vi at h;cases vi with
 |int ki j=>
  have hi:=lZ hE hi;generalize hx:bK e x=v at h;cases v with
  |agg cs=>
   obtain ⟨j',rfl,_,h2,h⟩:=B7 h;have h1:Nat.blt j' n=true:=by simp;omega
   obtain ⟨v,hv,h⟩:=bI h;obtain ⟨q,hq,hr⟩:=U4 hE hx;obtain ⟨p,hp,hpr⟩:=tO hr hv;exact fZ.val hS h (by simp only [bC,hi,jP,h1,if_true,hq,hp];rfl) hpr
  |_=>cases h
 |_=>cases h
theorem W6 (hE:dB s e pe) (hS:cM s ps) {x i:eO} (h:lJ e s z (.sidx x i) k ρ w=some y):fZ s ps (bC pe ps z (.sidx x i)) k ρ w y:=by
 simp only [lJ] at h;generalize hi:bK e i=vi at h;cases vi with
 |int ki j=>
  have hi:=lZ hE hi;generalize hx:bK e x=v at h;cases v with
  |str t=>
   obtain ⟨b,hb,h⟩:=cW h;have hx:=U4 hE hx;cases j with
   |negSucc _=>cases hb
   |ofNat m=>
    simp only [aGa,Option.map_eq_some_iff] at hb;obtain ⟨c,hc,rfl⟩:=hb;exact fZ.val hS h (by simp only [bC,hi,jP,show x.ev pe=_ from hx,hc]) rfl
  |_=>cases h
 |_=>cases h
theorem W7 (hE:dB s e pe) (hS:cM s ps) {agg:Option Nat} {p:eO} (h:lJ e s z (.load agg p) k ρ w=some y):fZ s ps (bC pe ps z (.load agg p)) k ρ w y:=by
 simp only [lJ] at h;have hx:=dK hE p;unfold aGc at h;generalize bK e p=v at h hx;cases v with
 |bp t n off=>
  simp only [cC] at h;generalize hst:s[t]? =b at h;cases b with
  |none=>cases h
  |some b=>
   cases b with
   |box cs=>
    obtain ⟨v,hv,h⟩:=bI h;obtain ⟨q,h1,h2⟩:=hS.box hst;obtain ⟨u,h3,h4⟩:=tO h2 hv;refine fZ.rd hS h ?_ h4;show oE ps agg (p.ev pe)=_;rw [show p.ev pe=_ from hx];simp only [oE,h1,Nat.beq_refl,if_true,h3];rfl
   |_=>cases h
 |pa t r i a off=>
  simp only [cC] at h;generalize hst:s[t]? =b at h;cases b with
  |none=>cases h
  |some b=>
   cases b with
   |arr q l=>
    obtain ⟨v,hv,hk⟩:=bI h;obtain ⟨hx,hat⟩:=hx;obtain ⟨rfl,hg⟩:=hat.inv hst;obtain ⟨u,h3,h4⟩:=tO (KD r a) hv;obtain ⟨m,rfl,hm⟩:=mH hg;refine fZ.rd hS hk ?_ h4;show oE ps agg (p.ev pe)=_;rw [hx];have hm':(l.map (RT.pv r))[m]? =some (RT.pv r a):=by simp [hm]
    have e1:(Int.ofNat m).toNat=m:=rfl;simp only [oE,hS.arr hst,e1,hm',h3];rfl
   |_=>cases h
 |pb t i off=>
  simp only [cC] at h;generalize hst:s[t]? =b at h;cases b with
  |none=>cases h
  |some b=>
   cases b with
   |arr r l=>
    obtain ⟨a,ha,h⟩:=cW h;obtain ⟨v,hv,hk⟩:=bI h;obtain ⟨e',hx,hat⟩:=hx;obtain ⟨u,h3,h4⟩:=tO (KD r a) hv;obtain ⟨m,rfl,hm⟩:=mH ha;refine fZ.rd hS hk ?_ h4;show oE ps agg (p.ev pe)=_;rw [hx];have hm':(l.map (RT.pv r))[m]? =some (RT.pv r a):=by simp [hm]
    have e1:(Int.ofNat m).toNat=m:=rfl;simp only [oE,hS.arr hst,e1,hm',h3];rfl
   |_=>cases h
 |rptr cs off=>
  obtain ⟨v,hv,h⟩:=bI h;obtain ⟨q,hq,hr⟩:=hx;obtain ⟨u,h3,h4⟩:=tO hr hv;refine fZ.val hS h ?_ h4;show oE ps agg (p.ev pe)=_;rw [hq];simp only [oE,h3];rfl
 |_=>cases h
theorem LT (hS:cM s ps) {t:Nat} {r:List PT} {l:List (RT r)} (hst:s[t]? =some (.arr r l)) {i:Int} {b:RT r} {rd:List Nat}:
 gY s ps {v:= .undef,wr:=[(t,.arr r (cD l i b))],rd} {v:= .undef,wr:=[(t,.arr r.length ((l.map (RT.pv r)).set i.toNat (RT.pv r b)))],rd}:=
 gY.put0 hS hst (.inl ⟨_,rfl,by simp⟩) (by show _=_;simp [cD,List.map_set])
theorem U8 (hE:dB s e pe) (hS:cM s ps) {sz:Nat} {p x:eO} (h:lJ e s z (.store sz p x) k ρ w=some y):fZ s ps (bC pe ps z (.store sz p x)) k ρ w y:=by
 simp only [lJ] at h;have hx:=dK hE p;have hv:=dK hE x;unfold WG at h;generalize bK e p=v at h hx;generalize bK e x=u at h hv;cases v with
 |bp t n off=>
  simp only [cC] at h;generalize hst:s[t]? =b at h;cases b with
  |none=>cases h
  |some b=>
   cases b with
   |box cs=>
    obtain ⟨w',hw,h⟩:=bI h;obtain ⟨hc,h⟩:=cJ h;obtain ⟨q,h1,h2⟩:=hv.stored hw;obtain ⟨b,h3,h4⟩:=hS.box hst;have hfr:=Fr.dg (ts:=[t]) (Fr.set (b:= .box (pG off w' cs)) hst trivial);refine ⟨_,_,?_,gY.put0 hS (b:= .box (pG off w' cs)) (q:= .box (oH off q b)) (rd:=[]) hst trivial ⟨_,rfl,RL.fr hfr (zW h2 h4)⟩,h⟩
    · show rV ps z sz (x.ev pe) (p.ev pe)=_
      rw [show p.ev pe=_ from hx];simp only [rV,h3,h1,h2.length,h4.length];rw [if_pos (by simpa using hc)]
   |_=>cases h
 |pa t r i a off=>
  simp only [cC] at h;generalize hst:s[t]? =b at h;cases b with
  |none=>cases h
  |some b=>
   cases b with
   |arr q l=>
    obtain ⟨hc,h⟩:=cJ h;obtain ⟨a',ha',hk⟩:=bI h;obtain ⟨hx,hat⟩:=hx;obtain ⟨rfl,hg⟩:=hat.inv hst;obtain ⟨m,rfl,hm⟩:=mH hg;refine ⟨_,_,?_,LT hS hst (rd:=[]),hk⟩;show rV ps z sz (x.ev pe) (p.ev pe)=_;rw [hx];have hm':(l.map (RT.pv r))[m]? =some (RT.pv r a):=by simp [hm]
    have e1:(Int.ofNat m).toNat=m:=rfl;simp only [Bool.and_eq_true,Bool.not_eq_true'] at hc;obtain ⟨⟨c1,c2⟩,c3⟩:=hc;have hj:u≠ .junk:=by
     intro e;subst e
     have:=RT.of_some ha'
     have hq:=congrArg (fun l=>l[off]?) this
     have hle:=Nat.le_of_ble_eq_true c2;have hsz:sz=1:=by have:=Nat.eq_of_beq_eq_true c1;simpa [SV.cells] using this.symm
     have hlt:off<r.length:=by omega
     have hl1:off<(RT.sv r a).length:=by rw [RT.sv_len];exact hlt
     simp only [pG,SV.cells] at hq;rw [List.getElem?_append_left (by simp;omega),List.getElem?_append_right (by simp;omega)] at hq
     simp only [List.length_take,Nat.min_eq_left (Nat.le_of_lt hl1),Nat.sub_self,List.getElem?_cons_zero] at hq
     have: ∀(r:List PT) (b:RT r) (n:Nat),(RT.sv r b)[n]?≠some .junk:=by
      intro r
      induction r with
      |nil=>intro b n h;simp [RT.sv] at h
      |cons p rest ih=>
       intro b n;cases rest with
       |nil=>cases n<;>cases p<;>simp [RT.sv,PT.sv]
       |cons p2 rest2=>cases n with
        |zero=>cases p<;>simp [RT.sv,PT.sv]
        |succ n=>simpa [RT.sv] using ih b.2 n
     exact this r a' off hq.symm
    have hcells:=hv.cells hj;have hrow:=RT.of_some ha';have h5:RL s (RT.sv r a') (oH off (x.ev pe).cells (RT.pv r a)):=by
     rw [<- hrow];exact zW hcells (KD r a)
    have h6:=zV r a' h5;have hplain:(x.ev pe).storedPlain=some (x.ev pe).cells:=by
     unfold PV.storedPlain;rw [if_pos ?_];have hall:=RT.plain r a';rw [<- h6] at hall;unfold oH at hall;simp only [List.all_append,Bool.and_eq_true] at hall;exact hall.1.2
    simp only [rV,hS.arr hst,e1,hm',hplain,hcells.length,RT.pv_len];rw [if_pos (by simp [c1,c2,c3])]
    simp only [h6]
   |_=>cases h
 |pb t i off=>
  simp only [cC] at h;generalize hst:s[t]? =b at h;cases b with
  |none=>cases h
  |some b=>
   cases b with
   |arr r l=>
    obtain ⟨hc,h⟩:=cJ h;obtain ⟨e',hx,hat⟩:=hx;have hin:=hat.inv hst;rw [Option.isSome_iff_exists] at hin;obtain ⟨a0,hg⟩:=hin;obtain ⟨m,rfl,hm⟩:=mH hg;have hm':(l.map (RT.pv r))[m]? =some (RT.pv r a0):=by simp [hm]
    have e1:(Int.ofNat m).toNat=m:=rfl;simp only [Bool.and_eq_true,Bool.not_eq_true'] at hc;obtain ⟨⟨c1,c2⟩,c3⟩:=hc;cases hsz:Nat.beq sz r.length with
    |true=>
     rw [hsz] at h;obtain ⟨a',ha',hk⟩:=bI h;obtain ⟨hp,hl⟩:=hv.ofRow ha';have hszr:=Nat.eq_of_beq_eq_true hsz;have hoff:off=0:=by have:=Nat.le_of_ble_eq_true c2;omega
     subst hoff;refine ⟨_,_,?_,LT hS hst (rd:=[]),hk⟩;show rV ps z sz (x.ev pe) (p.ev pe)=_;rw [hx];simp only [rV,hS.arr hst,e1,hm',hp,RT.pv_len];rw [if_pos (by rw [Nat.zero_add,hszr];simp [c3])]
     have:oH 0 (RT.pv r a') (RT.pv r a0)=RT.pv r a':=by
      unfold oH;rw [RT.pv_len,List.drop_of_length_le (by rw [RT.pv_len];omega)];simp
     rw [this]
    |false=>
     rw [hsz] at h;obtain ⟨a,ha,h⟩:=cW h;obtain ⟨a',ha',hk⟩:=bI h;rw [hg] at ha;injection ha with ha;subst ha;refine ⟨_,_,?_,LT hS hst (rd:=[]),hk⟩;show rV ps z sz (x.ev pe) (p.ev pe)=_;rw [hx];have hj:u≠ .junk:=by
      intro e;subst e
      have:=RT.of_some ha'
      have hq:=congrArg (fun l=>l[off]?) this
      have hle:=Nat.le_of_ble_eq_true c2;have hsz:sz=1:=by have:=Nat.eq_of_beq_eq_true c1;simpa [SV.cells] using this.symm
      have hlt:off<r.length:=by omega
      have hl1:off<(RT.sv r a0).length:=by rw [RT.sv_len];exact hlt
      simp only [pG,SV.cells] at hq;rw [List.getElem?_append_left (by simp;omega),List.getElem?_append_right (by simp;omega)] at hq
      simp only [List.length_take,Nat.min_eq_left (Nat.le_of_lt hl1),Nat.sub_self,List.getElem?_cons_zero] at hq
      have: ∀(r:List PT) (b:RT r) (n:Nat),(RT.sv r b)[n]?≠some .junk:=by
       intro r
       induction r with
       |nil=>intro b n h;simp [RT.sv] at h
       |cons p rest ih=>
        intro b n;cases rest with
        |nil=>cases n<;>cases p<;>simp [RT.sv,PT.sv]
        |cons p2 rest2=>cases n with
         |zero=>cases p<;>simp [RT.sv,PT.sv]
         |succ n=>simpa [RT.sv] using ih b.2 n
      exact this r a' off hq.symm
     have hcells:=hv.cells hj;have hrow:=RT.of_some ha';have h5:RL s (RT.sv r a') (oH off (x.ev pe).cells (RT.pv r a0)):=by
      rw [<- hrow];exact zW hcells (KD r a0)
     have h6:=zV r a' h5;have hplain:(x.ev pe).storedPlain=some (x.ev pe).cells:=by
      unfold PV.storedPlain;rw [if_pos ?_];have hall:=RT.plain r a';rw [<- h6] at hall;unfold oH at hall;simp only [List.all_append,Bool.and_eq_true] at hall;exact hall.1.2
     simp only [rV,hS.arr hst,e1,hm',hplain,hcells.length,RT.pv_len];rw [if_pos (by simp [c1,c2,c3])]
     simp only [h6]
   |_=>cases h
 |_=>cases h
end
end Go.Vm
/- Operation by operation, third part: slices, new blocks, append, sets; all of them together. -/
namespace Go.Vm
section
variable {R' ρ : Type} {w : R' -> ρ} {y : ρ} {s : List SB} {ps : cL} {e : SE} {pe : tB} {z : List Nat} {k : gR -> iC R'}
def HX (pe:tB) (o:Option eO):Option (Option Nat):=match o with|none=>some none|some a=>(jP (a.ev pe)).map some
theorem vB (hE:dB s e pe) {o:Option eO} {d a:Int} {n:Nat} (h:ES e d o=some a) (hd:d=Int.ofNat n) (h0:0<=a): ∃b,HX pe o=some b/\b.getD n=a.toNat:=by
 cases o with
 |none=>
  injection h with h;subst h hd;exact ⟨none,rfl,rfl⟩
 |some x=>
  simp only [ES] at h;split at h
  · rename_i ka m hx
    injection h with h;subst h;obtain ⟨b,rfl⟩:=Int.eq_ofNat_of_zero_le h0;refine ⟨some b,?_,rfl⟩;simp only [HX,lZ hE hx];rfl
  · cases h
theorem B8 {esz:Nat} {x:eO} {lo hi mx:Option eO} {l h m:Option Nat} {v:PV} (he:uO esz (x.ev pe)=true) (h1:HX pe lo=some l) (h2:HX pe hi=some h) (h3:HX pe mx=some m) (hv:qU (x.ev pe) l h m=some v):
 bC pe ps z (.slc esz x lo hi mx)=some {v:=v}:=by
 have e:bC pe ps z (.slc esz x lo hi mx)=(match HX pe lo,HX pe hi,HX pe mx with|some l,some h,some m=>(qU (x.ev pe) l h m).map fun v=>({v}:oD)|_,_,_=>none):=by
  simp only [bC,he,Bool.not_true,Bool.false_eq_true,if_false];rfl
 rw [e,h1,h2,h3];simp only [hv];rfl
theorem HY {α:Type} {l r:List α} {lo hi:Int} (h:jJ l lo hi=some r): ∃a b:Nat,lo=Int.ofNat a/\hi=Int.ofNat b/\a<=b/\b<=l.length/\r=(l.drop a).take (b-a):=by
 unfold jJ at h;split at h
 · rename_i hc
   obtain ⟨a,rfl⟩:=Int.eq_ofNat_of_zero_le hc.1;obtain ⟨b,rfl⟩:=Int.eq_ofNat_of_zero_le (Int.le_trans hc.1 hc.2.1);injection h with h;exact ⟨a,b,rfl,rfl,by omega,by omega,by rw [<- h];simp⟩
 · cases h
theorem LU (hE:dB s e pe) (hS:cM s ps) {esz t off len cap:Nat} {ex:Bool} {x:eO} {lo hi mx:Option eO} (hx:x.ev pe= .own t esz off len cap ex) (hat:A6 s t esz) (h:QO e t off len cap ex lo hi mx k ρ w=some y):
 fZ s ps (bC pe ps z (.slc esz x lo hi mx)) k ρ w y:=by
 unfold QO at h;obtain ⟨a,ha,h⟩:=bI h;obtain ⟨b,hb,h⟩:=bI h;have he:uO esz (x.ev pe)=true:=by rw [hx];simp [uO]
 cases mx with
 |none=>
  obtain ⟨hc,h⟩:=gF h;simp only [Bool.and_eq_true,decide_eq_true_eq] at hc;obtain ⟨⟨c1,c2⟩,c3⟩:=hc;obtain ⟨l,h1,h2⟩:=vB hE (n:=0) ha rfl c1;obtain ⟨u,h3,h4⟩:=vB hE (n:=len) hb rfl (Int.le_trans c1 c2);refine fZ.val hS h (B8 he h1 h3 (m:=none) rfl ?_) ⟨esz,rfl,hat⟩;rw [hx];have c4:(Nat.ble a.toNat b.toNat&&Nat.ble b.toNat cap)=true:=by
   have c3':b<=(cap:Int):=c3
   simp;omega
  simp only [qU,h2,h4,c4,if_true]
 |some mo=>
  dsimp only at h;generalize hm:bK e mo=vm at h;cases vm with
  |int km c=>
   obtain ⟨hc,h⟩:=gF h;simp only [Bool.and_eq_true,decide_eq_true_eq] at hc;obtain ⟨⟨⟨c1,c2⟩,c3⟩,c4⟩:=hc;obtain ⟨l,h1,h2⟩:=vB hE (n:=0) ha rfl c1;obtain ⟨u,h3,h4⟩:=vB hE (n:=len) hb rfl (Int.le_trans c1 c2);have hc0:0<=c:=Int.le_trans (Int.le_trans c1 c2) c3;obtain ⟨c,rfl⟩:=Int.eq_ofNat_of_zero_le hc0
   refine fZ.val hS h (B8 he h1 h3 (m:=some c) (by simp only [HX,lZ hE hm];rfl) ?_) ⟨esz,rfl,hat⟩
   rw [hx];have c5:(Nat.ble a.toNat b.toNat&&Nat.ble b.toNat c&&Nat.ble c cap)=true:=by
    have c4':(c:Int)<=(cap:Int):=c4
    simp;omega
   simp only [qU,h2,h4,c5,if_true];rfl
  |_=>cases h
theorem Z1 (hE:dB s e pe) (hS:cM s ps) {esz:Nat} {x:eO} {lo hi mx:Option eO} (h:lJ e s z (.slc esz x lo hi mx) k ρ w=some y):fZ s ps (bC pe ps z (.slc esz x lo hi mx)) k ρ w y:=by
 simp only [lJ] at h;have hx:=dK hE x;unfold aLR at h;generalize bK e x=v at h hx;cases v with
 |sl r l=>
  cases mx with
  |some _=>cases h
  |none=>
   dsimp only at h;obtain ⟨he,h⟩:=cJ h;have he:=Nat.eq_of_beq_eq_true he;obtain ⟨a,ha,h⟩:=bI h;obtain ⟨b,hb,h⟩:=bI h;obtain ⟨m,hm,hk⟩:=cW h;obtain ⟨n1,n2,rfl,rfl,c1,c2,rfl⟩:=HY hm;obtain ⟨u1,h1,h2⟩:=vB hE (n:=0) ha rfl (by simp)
   obtain ⟨u2,h3,h4⟩:=vB hE (n:=l.length) hb rfl (by simp)
   have hx':x.ev pe= .sl r.length false (l.map (RT.pv r)):=hx;subst he;refine fZ.val hS (p:= .sl r.length false ((((l.drop n1).take (n2-n1))).map (RT.pv r))) hk (B8 (m:=none) (by rw [hx'];simp [uO]) h1 h3 rfl ?_) rfl
   rw [hx'];have h2':u1.getD 0=n1:=by rw [h2];rfl
   have h4':u2.getD (l.map (RT.pv r)).length=n2:=by rw [List.length_map,h4];rfl
   have c3:(Nat.ble n1 n2&&Nat.ble n2 (l.map (RT.pv r)).length)=true:=by simp [c1,c2]
   simp only [qU,h2',h4',c3,if_true,Bool.false_and,List.map_take,List.map_drop]
 |own t ex=>
  simp only [cC] at h;generalize hst:s[t]? =b at h;cases b with
  |none=>cases h
  |some b=>
   cases b with
   |arr r l=>
    dsimp only at h;obtain ⟨he,hk⟩:=cJ h;have he:=Nat.eq_of_beq_eq_true he;obtain ⟨e',n',hx,hat⟩:=hx;obtain ⟨rfl,rfl⟩:=hat.inv hst;subst he;have hesz:A6 s t r.length:= .inl ⟨r,l,hst,rfl⟩;have gen:QO e t 0 l.length l.length ex lo hi mx k ρ w=some y->fZ s ps (bC pe ps z (.slc r.length x lo hi mx)) k ρ w y:=fun h=>LU hE hS hx hesz h
    have he:uO r.length (x.ev pe)=true:=by rw [hx];simp [uO]
    cases mx with
    |some m=>cases lo<;>cases hi<;>exact gen hk
    |none=>
     cases lo with
     |some _=>cases hi<;>exact gen hk
     |none=>
      cases hi with
      |none=>
       refine fZ.val hS hk (B8 (l:=none) (h:=none) (m:=none) he rfl rfl rfl ?_) ⟨r.length,l.length,rfl,hat⟩;rw [hx];simp [qU]
      |some ho=>
       dsimp only at hk;generalize hh:bK e ho=vh at hk;cases vh with
       |int kh b=>
        obtain ⟨m,hm,hk⟩:=cW hk;obtain ⟨n1,n2,h0,rfl,c1,c2,rfl⟩:=HY hm;refine fZ.val hS hk (B8 (l:=none) (h:=some n2) (m:=none) he rfl (by simp only [HX,lZ hE hh];rfl) rfl ?_) ⟨r.length,rfl,hesz⟩
        rw [hx];have c3:(Nat.ble 0 n2&&Nat.ble n2 l.length)=true:=by simp [c2]
        simp only [qU,Option.getD_none,Option.getD_some,c3,if_true];rfl
       |_=>cases hk
   |_=>cases h
 |pre t len cap ex=>
  simp only [cC] at h;generalize hst:s[t]? =b at h;cases b with
  |none=>cases h
  |some b=>
   cases b with
   |arr r l=>
    dsimp only at h;obtain ⟨he,hk⟩:=cJ h;have he:=Nat.eq_of_beq_eq_true he;obtain ⟨e',hx,hat⟩:=hx
    have:=hat.inv hst
    subst this;subst he;have gen:QO e t 0 len cap ex lo hi mx k ρ w=some y->fZ s ps (bC pe ps z (.slc r.length x lo hi mx)) k ρ w y:=fun h=>LU hE hS hx hat h
    have he:uO r.length (x.ev pe)=true:=by rw [hx];simp [uO]
    cases mx with
    |some m=>cases lo<;>cases hi<;>exact gen hk
    |none=>
     cases lo with
     |some _=>cases hi<;>exact gen hk
     |none=>
      cases hi with
      |none=>
       obtain ⟨hlc,hk⟩:=gF hk;refine fZ.val hS hk (B8 (l:=none) (h:=none) (m:=none) he rfl rfl rfl ?_) ⟨r.length,rfl,hat⟩;rw [hx];have c3:(Nat.ble 0 len&&Nat.ble len cap)=true:=by simp [hlc]
       simp only [qU,Option.getD_none,c3,if_true];simp
      |some ho=>
       dsimp only at hk;generalize hh:bK e ho=vh at hk;cases vh with
       |int kh b=>
        obtain ⟨hc,hk⟩:=gF hk;simp only [Bool.and_eq_true,decide_eq_true_eq] at hc;obtain ⟨c1,c2⟩:=hc;obtain ⟨b,rfl⟩:=Int.eq_ofNat_of_zero_le c1;refine fZ.val hS hk (B8 (l:=none) (h:=some b) (m:=none) he rfl (by simp only [HX,lZ hE hh];rfl) rfl ?_) ⟨r.length,rfl,hat⟩
        rw [hx];have c3:(Nat.ble 0 b&&Nat.ble b cap)=true:=by
         have c2':(b:Int)<=(cap:Int):=c2
         simp;omega
        simp only [qU,Option.getD_none,Option.getD_some,c3,if_true];rfl
       |_=>cases hk
   |_=>cases h
 |part t off len cap ex=>
  simp only [cC] at h;generalize hst:s[t]? =b at h;cases b with
  |none=>cases h
  |some b=>
   cases b with
   |arr r l=>
    dsimp only at h;obtain ⟨he,hk⟩:=cJ h;have he:=Nat.eq_of_beq_eq_true he;obtain ⟨e',hx,hat⟩:=hx
    have:=hat.inv hst
    subst this;subst he;exact LU hE hS hx hat hk
   |_=>cases h
 |_=>cases h
theorem sB {b:SB}:(s++[b])[s.length]? =some b:=by simp
theorem gZ: ∀{v:PV} {p:PT},eE v=some p->p.pv p.zero=v
 | .int k n,p,h=>by
  simp only [eE] at h;split at h
  · injection h with h;subst h;rfl
  · cases h
 | .bool b,p,h=>by
  simp only [eE] at h;split at h
  · injection h with h;subst h;rfl
  · cases h
 | .undef,_,h| .nul,_,h| .str _,_,h| .agg _,_,h| .tup _,_,h| .sl _ _ _,_,h| .own _ _ _ _ _ _,_,h| .ptr _ _ _ _,_,h| .rptr _ _,_,h| .mp _,_,h| .clo _ _ _,_,h| .nilf,_,h=>by cases h
theorem DH: ∀{l:List PV} {r:List PT},HL l=some r->RT.pv r (RT.zero r)=l
 | [],r,h=>by injection h with h;subst h;rfl
 |v::vs,r,h=>by
  simp only [HL] at h;split at h
  · rename_i p q h1 h2
    injection h with h;subst h;have e1:=gZ h1;have e2:=DH h2;cases q with
    |nil=>
     have:vs=[]:=by
      cases vs with
      |nil=>rfl
      |cons a b=>simp only [RT.pv] at e2;cases e2
     subst this;show [p.pv p.zero]=_;rw [e1]
    |cons p2 q2=>
     show p.pv p.zero::RT.pv (p2::q2) (RT.zero (p2::q2))=_;rw [e1,e2]
  · cases h
theorem Z2 (hE:dB s e pe) (hS:cM s ps) {esz:Nat} {zero:oG} {l c:eO} (h:lJ e s z (.mks esz zero l c) k ρ w=some y):fZ s ps (bC pe ps z (.mks esz zero l c)) k ρ w y:=by
 simp only [lJ] at h;generalize hl:bK e l=vl at h;cases vl with
 |int kl n=>
  generalize hc:bK e c=vc at h;cases vc with
  |int kc m=>
   obtain ⟨hnm,h1⟩:=gF h;obtain ⟨r,hr,h2⟩:=bI h1;obtain ⟨he,h3⟩:=cJ h2;obtain ⟨x,hx,hk⟩:=cW h3;have hnm:n=m:=by simpa using hnm
   subst hnm;have he:=Nat.eq_of_beq_eq_true he;subst he;unfold yJ at hx;split at hx
   · rename_i hc2
     injection hx with hx;subst hx;obtain ⟨a,rfl⟩:=Int.eq_ofNat_of_zero_le hc2.1;have h1:(Nat.ble a a&&Nat.ble a tC)=true:=by simp [tC];omega
     refine ⟨_,_,?_,gY.new hS (b:= .arr r (List.replicate (Int.ofNat a).toNat (RT.zero r))) (q:= .arr r.length (List.replicate a zero)) (v:= .own s.length true) (p:= .own s.length r.length 0 a a true) (rd:=[]) ?_ ?_,hk⟩
     · have e1:jP (.int kl (a:Int))=some a:=rfl
       have e2:jP (.int kc (a:Int))=some a:=rfl;simp only [bC,lZ hE hl,lZ hE hc,e1,e2];rw [if_pos h1,hS.len]
     · show _=_
       simp [DH hr]
     · exact ⟨r.length,a,rfl,.inl ⟨r,_,sB,rfl,by simp⟩⟩
   · cases hx
  |_=>cases h
 |_=>cases h
def wB {α:Type}:List α->List (Nat×α)->List α
 |l,[]=>l
 |l,(i,a)::r=>wB (l.set i a) r
theorem HZ {α:Type}: ∀(q:List (Nat×α)) (l:List α) (i:Nat),(wB l q)[i]? =(l[i]?).map fun z=>FN i z q
 | [],l,i=>by simp [wB,FN]
 |(j,a)::q,l,i=>by
  simp only [wB,FN];rw [HZ q (l.set j a) i,List.getElem?_set]
  by_cases hji:j=i
  · subst hji
    cases hl:l[j]? with
    |none=>
     have: ¬j<l.length:=by intro h;rw [List.getElem?_eq_getElem h] at hl;cases hl
     simp [this]
    |some z=>
     have:j<l.length:=(List.getElem?_eq_some_iff.1 hl).1
     simp [this]
  · have:Nat.beq j i=false:=by
     cases hb:Nat.beq j i with
     |false=>rfl
     |true=>exact absurd (Nat.eq_of_beq_eq_true hb) hji
    simp [hji,this]
theorem N8 {α:Type} (f:Nat->α): ∀(n i j:Nat),(LO f i n)[j]? =if j<n then some (f (i+j)) else none
 |0,i,j=>by simp [LO]
 |n+1,i,0=>by simp [LO]
 |n+1,i,j+1=>by
  simp only [LO,List.getElem?_cons_succ];rw [N8 f n (i+1) j,show i+1+j=i+(j+1) by omega]
  by_cases h:j<n
  · simp [h]
  · simp [h]
theorem IA {α:Type} (z:α) (n:Nat) (q:List (Nat×α)):wB (List.replicate n z) q=LO (fun i=>FN i z q) 0 n:=by
 apply List.ext_getElem?;intro i;rw [HZ,N8]
 by_cases h:i<n
 · simp [h]
 · simp [h]
theorem IB (hE:dB s e pe) {r:List PT} {n:Nat}: ∀{parts:List (Nat×eO)} {q:List (Nat×RT r)} {l:List (RT r)},SO r e n parts=some q->l.length=n->
 pX (parts.map fun p=>(p.1,p.2.ev pe)) (l.map (RT.pv r)) r.length=some ((wB l q).map (RT.pv r))
 | [],q,l,h,hl=>by injection h with h;subst h;rfl
 |p::parts,q,l,h,hl=>by
  simp only [SO] at h;split at h
  · rename_i a q' h1 h2
    cases hb:Nat.blt p.1 n with
    |false=>rw [hb] at h;cases h
    |true=>
     rw [hb] at h;injection h with h;subst h;have hp:=((dK hE p.2).ofRow h1).1;simp only [List.map_cons,pX,hp,RT.pv_len,List.length_map,hl,hb,Nat.beq_refl,Bool.and_self,if_true,wB];rw [<- List.map_set];exact IB hE h2 (by simp [hl])
  · cases h
theorem U9 (hE:dB s e pe) (hS:cM s ps) {esz n:Nat} {zero:oG} {parts:List (Nat×eO)} (h:lJ e s z (.mkrow esz n zero parts) k ρ w=some y):fZ s ps (bC pe ps z (.mkrow esz n zero parts)) k ρ w y:=by
 simp only [lJ] at h;obtain ⟨r,hr,h1⟩:=bI h;obtain ⟨he,h2⟩:=cJ h1;obtain ⟨q,hq,hk⟩:=bI h2;have he:=Nat.eq_of_beq_eq_true he;subst he;have hf:=IB hE (l:=List.replicate n (RT.zero r)) hq (by simp)
 rw [IA] at hf;have hz:(List.replicate n (RT.zero r)).map (RT.pv r)=List.replicate n zero:=by simp [DH hr]
 rw [hz] at hf;refine ⟨_,_,?_,gY.new hS (b:= .arr r (LO (fun i=>FN i (RT.zero r) q) 0 n)) (q:= .arr r.length ((LO (fun i=>FN i (RT.zero r) q) 0 n).map (RT.pv r))) (v:= .own s.length true) (p:= .own s.length r.length 0 n n true) (rd:=[]) rfl ?_,hk⟩
 · simp only [bC,hf,hS.len]
   rfl
 · refine ⟨r.length,n,rfl,.inl ⟨r,_,sB,rfl,?_⟩⟩
   rw [<- IA]
   have: ∀(q:List (Nat×RT r)) (l:List (RT r)),(wB l q).length=l.length:=by
    intro q
    induction q with
    |nil=>intro l;rfl
    |cons p q ih=>intro l;simp [wB,ih]
   rw [this];simp
theorem S2: ∀{cs:List SV} {q:List PV} {l:List Int},RL s cs q->SP cs=some l->q=l.map (.int .i64)
 | [],q,l,h,hi=>by injection hi with hi;subst hi;exact h
 |x::xs,q,l,h,hi=>by
  obtain ⟨p,q,rfl,h1,h2⟩:=h.cons_inv;simp only [SP] at hi;split at hi
  · rename_i n l' hx
    injection hi with hi;subst hi;rw [show p= .int .i64 n from h1,S2 h2 hx];rfl
  · cases hi
theorem W8 {v:SV} {p:PV} {n:Option Nat} {l:List Int} (h:R s v p) (hk:ZO n v=some l):p=tG l/\lF n (tG l)=true/\(tG l).storedPlain=some (tG l).cells/\(tG l).cells=l.map (.int .i64)/\(n=none->l.length=1)/\(∀m,n=some m->l.length=m/\m≠1):=by
 cases n with
 |none=>
  cases v with
  |int kk a=>
   cases kk with
   |i64=>
    injection hk with hk;subst hk;exact ⟨h,rfl,rfl,rfl,fun _=>rfl,fun m hm=>by cases hm⟩
   |_=>cases hk
  |_=>cases hk
 |some m=>
  cases v with
  |agg cs=>
   simp only [ZO] at hk;cases hc:(Nat.beq cs.length m&&!Nat.beq m 1) with
   |false=>rw [hc] at hk;cases hk
   |true=>
    rw [hc] at hk;simp only [cond_true] at hk;simp only [Bool.and_eq_true,Nat.beq_eq,Bool.not_eq_true'] at hc;obtain ⟨c1,c2⟩:=hc;obtain ⟨q,rfl,hq⟩:=h;have hq':=S2 hq hk;have hlen:l.length=m:=by have:=hq.length;rw [hq'] at this;simp at this;omega
    have hm1:m≠1:=by intro e;subst e;cases c2
    have hkl:tG l= .agg (l.map (.int .i64)):=by
     unfold tG;split
     · simp at hlen;omega
     · rfl
    refine ⟨by rw [hkl,hq'],by rw [hkl];simp [lF,hlen],?_,by rw [hkl];rfl,(fun h=>(by cases h)),fun m' hm=>by injection hm with hm;subst hm;exact ⟨hlen,hm1⟩⟩
    rw [hkl];unfold PV.storedPlain;rw [if_pos];simp [PV.cells,PV.plain]
  |_=>cases hk
theorem wC: ∀(a b:List Int),a.length=b.length->cY (a.map (.int .i64)) (b.map (.int .i64))=some (a==b)
 | [],[],_=>rfl
 |x::a,y::b,h=>by
  have ih:=wC a b (by simpa using h)
  simp only [List.map_cons,cY,rU,N6,if_true];cases hxy:x==y with
  |true=>simp only [ih];simp [List.cons_beq_cons,hxy]
  |false=>simp [List.cons_beq_cons,hxy]
 | [],_::_,h=>by simp at h
 |_::_,[],h=>by simp at h
theorem EW {n:Option Nat} {a:List Int} (ha:(tG a).cells=a.map (.int .i64)) (hn:(n=none->a.length=1)/\(∀m,n=some m->a.length=m/\m≠1)): ∀(l:List (List Int)) (i:Nat),(∀r,gW n (tG a) (l.map DC) i=some r->(match r with|none=>F7 l a=false|some j=>i<=j/\F7 l a=true/\l[j-i]? =some a))
 | [],i,r,h=>by
  simp only [List.map_nil,gW,Option.some.injEq] at h;subst h;rfl
 |b::l,i,r,h=>by
  simp only [List.map_cons,DC,gW] at h;split at h
  · rename_i hk
    have hb:(tG b).cells=b.map (.int .i64)/\a.length=b.length:=by
     cases n with
     |none=>
      have hl:=hn.1 rfl;unfold tG at hk ⊢;split at hk
      · exact ⟨rfl,by simpa using hl⟩
      · cases hk
     |some m=>
      obtain ⟨hl,hm⟩:=hn.2 m rfl;unfold tG at hk ⊢;split at hk
      · cases hk
      · simp only [lF,List.length_map,Nat.beq_eq] at hk
        exact ⟨rfl,by omega⟩
    rw [ha,hb.1,wC a b hb.2] at h;cases hab:a==b with
    |true=>
     rw [hab] at h;injection h with h;subst h
     have:a=b:=by simpa using hab
     subst this;exact ⟨Nat.le_refl _,by simp [F7],by simp⟩
    |false=>
     rw [hab] at h
     have:=EW ha hn l (i+1) r h
     cases r with
     |none=>simpa [F7,hab] using this
     |some j=>
      obtain ⟨h1,h2,h3⟩:=this;refine ⟨by omega,by simp only [F7] at h2;simp [F7,h2],?_⟩
      rw [show j-i=(j- (i+1))+1 by omega];simpa using h3
  · cases h
theorem DI {n:Option Nat} {a:List Int} (ha:(tG a).cells=a.map (.int .i64)) (hn:(n=none->a.length=1)/\(∀m,n=some m->a.length=m/\m≠1)) {l:List (List Int)} (hl:l.all (fun b=>lF n (tG b))=true): ∀i,∃r,gW n (tG a) (l.map DC) i=some r:=by
 induction l with
 |nil=>intro i;exact ⟨none,rfl⟩
 |cons b l ih=>
  intro i;simp only [List.all_cons,Bool.and_eq_true] at hl;obtain ⟨r,hr⟩:=ih hl.2 (i+1);simp only [List.map_cons,DC,gW,hl.1,if_true];have hb:(tG b).cells=b.map (.int .i64)/\a.length=b.length:=by
   have hk:=hl.1;cases n with
   |none=>
    have hl':=hn.1 rfl;unfold tG at hk ⊢;split at hk
    · exact ⟨rfl,by simpa using hl'⟩
    · cases hk
   |some m=>
    obtain ⟨hl',hm⟩:=hn.2 m rfl;unfold tG at hk ⊢;split at hk
    · cases hk
    · simp only [lF,List.length_map,Nat.beq_eq] at hk
      exact ⟨rfl,by omega⟩
  rw [ha,hb.1,wC a b hb.2];cases hab:a==b with
  |true=>exact ⟨some i,rfl⟩
  |false=>exact ⟨r,hr⟩
theorem F0s {n:Option Nat} {a:List Int} (hn:(n=none->a.length=1)/\(∀m,n=some m->a.length=m/\m≠1)) {l:List (List Int)} (hl: ∀b∈l,b.length=a.length):l.all (fun b=>lF n (tG b))=true:=by
 rw [List.all_eq_true];intro b hb;have hlen:=hl b hb;cases n with
 |none=>
  have h1:=hn.1 rfl;rw [h1] at hlen
  match b,hlen with
  | [x],_=>rfl
 |some m=>
  obtain ⟨h1,h2⟩:=hn.2 m rfl;unfold tG;split
  · rename_i x;simp at hlen;omega
  · simp [lF];omega
theorem DJ {a:List Int} {l:List (List Int)} (h:nB a l=true): ∀b∈l,b.length=a.length:=by
 intro b hb;exact Nat.eq_of_beq_eq_true (List.all_eq_true.1 h b hb)
theorem QV (hE:dB s e pe) (hS:cM s ps) {n:Option Nat} {zero:PV} {ok:Bool} {m q:eO} (h:lJ e s z (.lookup n zero ok m q) k ρ w=some y):fZ s ps (bC pe ps z (.lookup n zero ok m q)) k ρ w y:=by
 simp only [lJ] at h;cases zero with
 |bool b=>
  cases b with
  |true=>cases h
  |false=>
   cases ok with
   |true=>cases h
   |false=>
    dsimp only at h;have hx:=dK hE m;generalize bK e m=v at h hx;cases v with
    |mp t=>
     simp only [cC] at h;generalize hst:s[t]? =b at h;cases b with
     |none=>cases h
     |some b=>
      cases b with
      |set l=>
       obtain ⟨a,ha,h1⟩:=bI h;obtain ⟨b,hb,hk⟩:=cW h1;obtain ⟨k1,k2,k3,k4,k5⟩:=W8 (dK hE q) ha;unfold NX at hb;cases hlk:nB a l with
       |false=>rw [hlk] at hb;cases hb
       |true=>
        rw [hlk] at hb;injection hb with hb;subst hb;obtain ⟨r,hr⟩:=DI k4 k5 (F0s k5 (DJ hlk)) 0;have hf:=EW k4 k5 l 0 r hr;refine fZ.rd hS hk ?_ rfl;show CR ps n (.bool false) false (m.ev pe) (q.ev pe)=_;rw [show m.ev pe=_ from hx,k1];simp only [CR,hS.set_ hst,k2,if_true,hr];cases r with
        |none=>simp only at hf;simp [hf]
        |some j=>
         obtain ⟨_,h2,h3⟩:=hf
         have:(l.map DC)[j]? =some (DC a):=by simp at h3;simp [h3]
         simp [this,h2,DC]
      |_=>cases h
    |_=>cases h
 |_=>cases h
theorem W9 (hE:dB s e pe) (hS:cM s ps) {n:Option Nat} {m q x:eO} (h:lJ e s z (.mapu n m q x) k ρ w=some y):fZ s ps (bC pe ps z (.mapu n m q x)) k ρ w y:=by
 simp only [lJ] at h;have hv:=dK hE x;generalize bK e x=u at h hv;cases u with
 |bool b=>
  cases b with
  |false=>cases h
  |true=>
   dsimp only at h;have hx:=dK hE m;generalize bK e m=v at h hx;cases v with
   |mp t=>
    simp only [cC] at h;generalize hst:s[t]? =b at h;cases b with
    |none=>cases h
    |some b=>
     cases b with
     |set l=>
      obtain ⟨hz,h0⟩:=vA h;obtain ⟨a,ha,h1⟩:=bI h0;obtain ⟨b,hb,hk⟩:=cW h1;obtain ⟨k1,k2,k3,k4,k5⟩:=W8 (dK hE q) ha;unfold NY at hb;cases hlk:nB a l with
      |false=>rw [hlk] at hb;cases hb
      |true=>
       rw [hlk] at hb;injection hb with hb;subst hb;obtain ⟨r,hr⟩:=DI k4 k5 (F0s k5 (DJ hlk)) 0;have hf:=EW k4 k5 l 0 r hr;refine ⟨_,_,?_,gY.put0 hS (b:= .set (QM l a)) (q:= .map ((QM l a).map DC)) (rd:=[]) hst trivial rfl,hk⟩;show M7 ps z n (m.ev pe) (q.ev pe) (x.ev pe)=_;rw [show m.ev pe=_ from hx,k1,show x.ev pe= .bool true from hv]
       have p2:(PV.bool true).storedPlain=some [.bool true]:=rfl;simp only [M7,hS.set_ hst,k2,hz,Bool.not_false,Bool.and_self,if_true,k3,p2,hr];cases r with
       |none=>simp only at hf;simp [QM,hf,DC]
       |some j=>
        obtain ⟨_,h2,h3⟩:=hf;have h5:l[j]? =some a:=by simpa using h3
        have:(l.map DC).set j (tG a,.bool true)=l.map DC:=by
         apply List.ext_getElem?;intro i;rw [List.getElem?_set];split
         · rename_i hij
           subst hij;have hlt:=(List.getElem?_eq_some_iff.1 h5).1;have h6:l[j]=a:=(List.getElem?_eq_some_iff.1 h5).2;simp [hlt,h6,DC]
         · rfl
        simp [QM,h2,this]
     |_=>cases h
   |_=>cases h
 |_=>cases h
theorem A6.fr' {s s':List SB} {bad:List Nat} {t e:Nat} (h:A6 s t e) (hf:Fr bad s s'):A6 s' t e:=by
 rcases h with ⟨r,l,h1,h2⟩|h1
 · rcases hf t _ h1 with ⟨l',k1,_,_⟩|k1
   · exact .inl ⟨r,l',k1,h2⟩
   · exact .inr k1
 · exact .inr (hf t _ h1)
theorem B9 {α:Type} {l r:List α} (h:cG l=some r):r=l/\l.length<=1048576:=by
 unfold cG at h;split at h
 · injection h with h;exact ⟨h.symm,by assumption⟩
 · cases h
theorem yO {α:Type} {l m r:List α} (h:bM l m=some r):r=l++m/\l.length+m.length<=1048576:=by
 unfold bM at h;split at h
 · injection h with h;exact ⟨h.symm,by assumption⟩
 · cases h
theorem tP: ∀(m l:List oG) (n:Nat),n+m.length<=l.length->kA n m l=iO l n m
 | [],l,n,h=>by simp [kA,iO]
 |a::m,l,n,h=>by
  simp only [List.length_cons] at h;rw [kA,tP m (l.set n a) (n+1) (by simp;omega)]
  unfold iO;rw [List.take_set,List.drop_set];have hn:n<l.length:=by omega
  have h1: ¬(n+1+m.length<=n):=by omega
  rw [if_pos (by omega)]
  have:(l.take (n+1)).set n a=l.take n++[a]:=by
   rw [List.take_succ_eq_append_getElem hn,List.set_append_right _ _ (by simp;omega)]
   simp [Nat.min_eq_left (Nat.le_of_lt hn)]
  rw [this];simp only [List.append_assoc,List.cons_append,List.nil_append,List.length_cons];rw [show n+1+m.length=n+(m.length+1) by omega]
theorem IC {α β:Type} (f:α->β) (l m:List α) (n:Nat):(iO l n m).map f=iO (l.map f) n (m.map f):=by
 simp [iO,List.map_take,List.map_drop]
theorem DK {α:Type} (l m:List α) (n:Nat) (h:n+m.length<=l.length):(iO l n m).length=l.length:=by
 simp [iO];omega
theorem QW (hE:dB s e pe) (hS:cM s ps) {esz:Nat} {x yy:eO} (h:lJ e s z (.append esz x yy) k ρ w=some y):fZ s ps (bC pe ps z (.append esz x yy)) k ρ w y:=by
 simp only [lJ] at h;have hx:=dK hE x;have hyv:=dK hE yy;unfold SQ at h;generalize bK e yy=vy at h hyv;cases hc:A3 s vy with
 |none=>rw [hc] at h;cases h
 |some cc=>
  obtain ⟨q,m⟩:=cc;rw [hc] at h;dsimp only at h;obtain ⟨he,h⟩:=cJ h;have he:=Nat.eq_of_beq_eq_true he;obtain ⟨hro,htk⟩:=S0 hS hyv hc;rw [he] at hro;have pe_app:bC pe ps z (.append esz x yy)=jG ps z esz (x.ev pe) (yy.ev pe):=rfl;generalize bK e x=v at h hx;cases v with
  |nil e' c=>
   dsimp only at h;obtain ⟨hcl,h⟩:=cJ h;obtain ⟨m',hm',hk⟩:=cW h;obtain ⟨rfl,hle⟩:=B9 hm';refine ⟨_,_,?_,gY.new hS (b:= .arr q m') (q:= .arr esz (m'.map (RT.pv q))) (v:= .own s.length false) (p:= .own s.length esz 0 m'.length m'.length false) (rd:=vW vy) (by rw [<- he];rfl) ⟨esz,m'.length,rfl,.inl ⟨q,m',sB,he.symm,rfl⟩⟩,hk⟩
   rw [pe_app];have hcl':c=true:=hcl;subst hcl';rw [show x.ev pe= .sl e' true [] from hx];unfold jG;rw [hro];cases m' with
   |nil=>simp [hS.len,htk]
   |cons a m'=>
    have h2:Nat.ble ((a::m').length) tC=true:=by simp [tC] at hle ⊢;omega
    simp only [List.length_cons] at h2;simp [hS.len,htk,h2]
  |own t ex=>
   dsimp only at h;simp only [cC] at h;generalize hst:s[t]? =b at h;cases b with
   |none=>cases h
   |some b=>
    cases b with
    |arr r l=>
     dsimp only at h;cases hca:yK q r m with
     |none=>rw [hca] at h;cases h
     |some m2=>
      rw [hca] at h;dsimp only at h;obtain ⟨rfl,hmp,hml⟩:=DB hca;obtain ⟨e',n',hx,hat⟩:=hx;obtain ⟨rfl,rfl⟩:=hat.inv hst;rw [<- hmp] at hro;have harr:=hS.arr hst;cases ex with
      |true=>
       dsimp only at h;rcases dU h with ⟨hl,h⟩|⟨hl,h⟩
       · obtain ⟨m',hm',hk⟩:=cW h
         obtain ⟨rfl,hle⟩:=B9 hm';have hl:l=[]:=by simpa using hl
         subst hl;refine ⟨_,_,?_,gY.new hS (b:= .arr q m') (q:= .arr q.length (m'.map (RT.pv q))) (v:= .own s.length false) (p:= .own s.length q.length 0 m'.length m'.length false) (rd:=t::vW vy) rfl ⟨q.length,m'.length,rfl,.inl ⟨q,m',sB,rfl,rfl⟩⟩,hk⟩;rw [pe_app,hx];unfold jG;rw [hro];subst he;cases m' with
         |nil=>simp [hS.len,htk]
         |cons a m'=>
          have h2:Nat.ble ((a::m').length) tC=true:=by simp [tC] at hle ⊢;omega
          simp only [List.length_cons] at h2;simp [hS.len,htk,h2,harr]
       · have hl:l≠[]:=by intro e;subst e;cases hl
         have hl0:l.length≠0:=by intro e;exact hl (List.length_eq_zero_iff.1 e)
         have hb0:Nat.beq l.length 0=false:=by
          cases hb:Nat.beq l.length 0 with
          |false=>rfl
          |true=>exact absurd (Nat.eq_of_beq_eq_true hb) hl0
         rcases dU h with ⟨hm,h⟩|⟨hm,h⟩
         · have hm:m2=[]:=by simpa using hm
           subst hm;refine fZ.rd hS h ?_ ⟨_,_,rfl,hat⟩;rw [pe_app,hx];unfold jG;rw [hro];simp [hb0,htk]
         · obtain ⟨l',hl',hk⟩:=cW h
           obtain ⟨rfl,hle⟩:=yO hl';refine ⟨_,_,?_,gY.new hS (b:= .arr q (l++m2)) (q:= .arr q.length ((l++m2).map (RT.pv q))) (v:= .own s.length false) (p:= .own s.length q.length 0 (l++m2).length (l++m2).length false) (rd:=t::vW vy) rfl ⟨q.length,(l++m2).length,rfl,.inl ⟨q,l++m2,sB,rfl,rfl⟩⟩,hk⟩;rw [pe_app,hx];unfold jG;rw [hro];subst he;cases m2 with
           |nil=>cases hm
           |cons a m2=>
            have h2:Nat.ble (l.length+(a::m2).length) tC=true:=by simp [tC] at hle ⊢;omega
            have h3:Nat.ble (l.length+(m2.length+1)) l.length=false:=by
             cases hb:Nat.ble (l.length+(m2.length+1)) l.length with
             |false=>rfl
             |true=>have:=Nat.le_of_ble_eq_true hb;omega
            simp only [List.length_cons] at h2;simp [hS.len,htk,h2,h3,harr,List.take_of_length_le]
      |false=>
       dsimp only at h;rcases dU h with ⟨hm,h⟩|⟨hm,h⟩
       · have hm:m2=[]:=by simpa using hm
         subst hm;refine fZ.rd hS h ?_ ⟨_,_,rfl,hat⟩;rw [pe_app,hx];unfold jG;rw [hro];simp [htk]
       · obtain ⟨hz,h⟩:=vA h
         obtain ⟨l',hl',hk⟩:=cW h;obtain ⟨rfl,hle⟩:=yO hl';have hlen:(FO [t] (s.set t .dead)).length=s.length:=by rw [DE];simp
         refine ⟨_,_,?_,gY.put hS (b:= .dead) (q:= .dead) (l:=[.arr q (l++m2)]) (ql:=[.arr q.length ((l++m2).map (RT.pv q))]) (v:= .own s.length false) (p:= .own s.length q.length 0 (l++m2).length (l++m2).length false) (rd:=vW vy) hst (.inr rfl) rfl rfl
          (fun j b hj=>by
           cases j with
           |zero=>simp at hj;subst hj;exact ⟨_,rfl,rfl⟩
           |succ j=>simp at hj)
          ⟨q.length,(l++m2).length,rfl,.inl ⟨q,l++m2,by rw [<- hlen];exact sB,rfl,rfl⟩⟩,hk⟩
         rw [pe_app,hx];unfold jG;rw [hro];subst he;cases m2 with
         |nil=>cases hm
         |cons a m2=>
          have h2:Nat.ble (l.length+(a::m2).length) tC=true:=by simp [tC] at hle ⊢;omega
          have h3:Nat.ble (l.length+(m2.length+1)) l.length=false:=by
           cases hb:Nat.ble (l.length+(m2.length+1)) l.length with
           |false=>rfl
           |true=>have:=Nat.le_of_ble_eq_true hb;omega
          simp only [List.length_cons] at h2;simp [hS.len,htk,h2,h3,harr,hz,List.take_of_length_le]
    |_=>cases h
  |pre t len cap ex=>
   dsimp only at h;simp only [cC] at h;generalize hst:s[t]? =b at h;cases b with
   |none=>cases h
   |some b=>
    cases b with
    |arr r l=>
     dsimp only at h;cases hca:yK q r m with
     |none=>rw [hca] at h;cases h
     |some m2=>
      rw [hca] at h;dsimp only at h;obtain ⟨rfl,hmp,hml⟩:=DB hca;obtain ⟨e',hx,hat⟩:=hx
      have:=hat.inv hst
      subst this;rw [<- hmp] at hro;have harr:=hS.arr hst;obtain ⟨hex,h⟩:=vA h;subst hex;rcases dU h with ⟨hm,h⟩|⟨hm,h⟩
      · have hm:m2=[]:=by simpa using hm
        subst hm;refine fZ.rd hS h ?_ ⟨_,rfl,hat⟩;rw [pe_app,hx];unfold jG;rw [hro];simp [htk]
      · rcases dU h with ⟨c1,h⟩|⟨c1,h⟩
        · obtain ⟨hc2,hk⟩:=gF h
          simp only [Bool.and_eq_true,Bool.not_eq_true'] at hc2;obtain ⟨c2,c3⟩:=hc2;have c2':=Nat.le_of_ble_eq_true c2
          refine ⟨_,_,?_,gY.put hS (b:= .arr q (iO l len m2)) (q:= .arr q.length ((iO l len m2).map (RT.pv q))) (l:=[]) (ql:=[]) (v:= .pre t (len+m2.length) cap false) (p:= .own t q.length 0 (len+m2.length) cap false) (rd:=vW vy) hst (.inl ⟨_,rfl,DK _ _ _ c2'⟩) rfl rfl
           (fun j b hj=>by simp at hj) ⟨q.length,rfl,?_⟩,hk⟩
          · rw [pe_app,hx]
            unfold jG;rw [hro];subst he;have hsr:kA (0+len) (m2.map (RT.pv q)) (l.map (RT.pv q))=(iO l len m2).map (RT.pv q):=by
             rw [tP _ _ _ (by simp;omega),IC,Nat.zero_add]
            cases m2 with
            |nil=>cases hm
            |cons a m2=>
             simp only [List.length_cons] at c1;simp only [List.map_cons] at hsr ⊢;simp only [harr,Nat.beq_refl,Bool.not_true,Bool.false_eq_true,if_false,List.length_cons,List.length_map,c1,if_true,c3,hsr,htk]
          · have:=A6.fr' (s:=s) (s':=FO [t] (s.set t (.arr q (iO l len m2)))++[]) hat ((Fr.dg (ts:=[t]) (Fr.set hst (.inl ⟨_,rfl,DK _ _ _ c2'⟩))).trans (Fr.app [t] _ []))
            exact this
        · obtain ⟨hz0,h⟩:=vA h
          have hz:has z t=false:=by
           cases hh:has z t with
           |false=>rfl
           |true=>rw [hh] at hz0;cases hz0
          obtain ⟨l',hl',h⟩:=cW h;obtain ⟨hll,hk⟩:=gF h;obtain ⟨hl'e,hle⟩:=yO hl';subst hl'e;have hll':=Nat.le_of_ble_eq_true hll;have htl:(l.take len).length=len:=by rw [List.length_take];omega
          rw [htl] at hle;have hlen:(FO [t] (s.set t .dead)).length=s.length:=by rw [DE];simp
          have hal:(l.take len++m2).length=len+m2.length:=by rw [List.length_append,htl]
          refine ⟨_,_,?_,gY.put hS (b:= .dead) (q:= .dead) (l:=[.arr q (l.take len++m2)]) (ql:=[.arr q.length ((l.take len++m2).map (RT.pv q))]) (v:= .own s.length false) (p:= .own s.length q.length 0 (l.take len++m2).length (l.take len++m2).length false) (rd:=vW vy) hst (.inr rfl) rfl rfl
           (fun j b hj=>by
            cases j with
            |zero=>simp at hj;subst hj;exact ⟨_,rfl,rfl⟩
            |succ j=>simp at hj)
           ⟨q.length,(l.take len++m2).length,rfl,.inl ⟨q,l.take len++m2,by rw [<- hlen];exact sB,rfl,rfl⟩⟩,hk⟩
          rw [pe_app,hx];unfold jG;rw [hro];subst he;cases m2 with
          |nil=>cases hm
          |cons a m2=>
           have h2:Nat.ble (len+(m2.length+1)) tC=true:=by simp [tC] at hle ⊢;omega
           simp only [List.length_cons] at c1 hal;simp only [List.map_cons,List.length_cons,List.length_map,harr,Nat.beq_refl,Bool.not_true,Bool.false_eq_true,if_false,c1,h2,hz,hS.len,htk,hal,List.drop_zero,List.map_append,List.map_take]
    |_=>cases h
  |_=>cases h
end
end Go.Vm
/- Operation by operation: all of them. -/
namespace Go.Vm
section
variable {R' ρ : Type} {w : R' -> ρ} {y : ρ} {s : List SB} {ps : cL} {e : SE} {pe : tB} {z : List Nat} {k : gR -> iC R'}
theorem VA (hE:dB s e pe) (hS:cM s ps) {esz:Nat} {zero:oG} {x:eO} (h:lJ e s z (.clear esz zero x) k ρ w=some y):fZ s ps (bC pe ps z (.clear esz zero x)) k ρ w y:=by
 simp only [lJ] at h;have hx:=dK hE x;unfold WH at h;generalize bK e x=v at h hx;cases v with
 |part t off len cap ex=>
  simp only [cC] at h;generalize hst:s[t]? =b at h;cases b with
  |none=>cases h
  |some b=>
   cases b with
   |arr r l=>
    dsimp only at h;cases hq:HL zero with
    |none=>rw [hq] at h;cases h
    |some q=>
     rw [hq] at h;dsimp only at h;obtain ⟨hc,h1⟩:=cJ h;simp only [Bool.and_eq_true] at hc;obtain ⟨hqr,he⟩:=hc;have hqr:=uZ hqr;have he:=Nat.eq_of_beq_eq_true he;obtain ⟨e',hx,hat⟩:=hx
     have:=hat.inv hst
     subst this;subst hqr;subst he;rcases dU h1 with ⟨hl,hk⟩|⟨hl,hk⟩
     · have hl:=Nat.eq_of_beq_eq_true hl
       subst hl;exact fZ.val hS hk (by simp only [bC,hx]) rfl
     · obtain ⟨hc2,hk⟩:=gF hk
       simp only [Bool.and_eq_true,Bool.not_eq_true'] at hc2;obtain ⟨c1,c2⟩:=hc2;have c1':=Nat.le_of_ble_eq_true c1;have hlen:=DK l (List.replicate len (RT.zero q)) off (by simpa using c1')
       refine ⟨_,_,?_,gY.put0 hS (b:= .arr q (iO l off (List.replicate len (RT.zero q)))) (q:= .arr q.length ((iO l off (List.replicate len (RT.zero q))).map (RT.pv q))) (rd:=[]) hst (.inl ⟨_,rfl,hlen⟩) rfl,hk⟩;cases len with
       |zero=>cases hl
       |succ len=>
        have hsr:kA off (List.replicate (len+1) zero) (l.map (RT.pv q))=(iO l off (List.replicate (len+1) (RT.zero q))).map (RT.pv q):=by
         rw [IC,tP _ _ _ (by simpa using c1')]
         simp [DH hq]
        simp only [bC,hx,hS.arr hst,Nat.beq_refl,c2,Bool.not_false,Bool.and_self,if_true,hsr]
   |_=>cases h
 |_=>cases h
theorem CA (hS:cM s ps) {t off len cap:Nat} {ex:Bool} {r:List PT} {l:List (RT r)} {x yy:eO} {vy:SV} (hst:s[t]? =some (.arr r l)) (hx:x.ev pe= .own t r.length off len cap ex) (hyv:R s vy (yy.ev pe))
 (h:HM s z t r l off len vy k ρ w=some y):fZ s ps (bC pe ps z (.copy r.length x yy)) k ρ w y:=by
 unfold HM at h;cases hc:A3 s vy with
 |none=>rw [hc] at h;cases h
 |some cc=>
  obtain ⟨q,m⟩:=cc;rw [hc] at h;dsimp only at h;cases hca:yK q r m with
  |none=>rw [hca] at h;cases h
  |some m2=>
   rw [hca] at h;dsimp only at h;obtain ⟨hqr,hmp,hml⟩:=DB hca;subst hqr;obtain ⟨hro,htk⟩:=S0 hS hyv hc;rw [<- hmp] at hro;have htake:(m2.map (RT.pv q)).take len=(m2.take len).map (RT.pv q):=by rw [List.map_take]
   generalize m2.take len=mm at h htake;rcases dU h with ⟨hm,hk⟩|⟨hm,hk⟩
   · have hm:mm=[]:=by simpa using hm
     subst hm;refine fZ.rd hS hk ?_ rfl;simp only [bC,hro,hx,htake,List.map_nil,htk]
   · obtain ⟨hc2,hk⟩:=gF hk
     simp only [Bool.and_eq_true,Bool.not_eq_true'] at hc2;obtain ⟨c1,c2⟩:=hc2;have c1':=Nat.le_of_ble_eq_true c1;have hlen:=DK l mm off c1'
     refine ⟨_,_,?_,gY.put hS (b:= .arr q (iO l off mm)) (q:= .arr q.length ((iO l off mm).map (RT.pv q))) (l:=[]) (ql:=[]) (v:= .int .i64 (.ofNat mm.length)) (p:= .int .i64 (.ofNat mm.length)) (rd:=vW vy) hst (.inl ⟨_,rfl,hlen⟩) rfl rfl (fun j b hj=>by simp at hj) rfl,hk⟩
     have hsr:kA off (mm.map (RT.pv q)) (l.map (RT.pv q))=(iO l off mm).map (RT.pv q):=by
      rw [IC,tP _ _ _ (by simpa using c1')]
     cases mm with
     |nil=>cases hm
     |cons a mm=>
      simp only [List.map_cons] at hsr htake;simp only [bC,hro,hx,htake,hS.arr hst,Nat.beq_refl,c2,Bool.not_false,Bool.and_self,if_true,hsr,htk,List.length_map,List.length_cons]
theorem XA (hE:dB s e pe) (hS:cM s ps) {esz:Nat} {x yy:eO} (h:lJ e s z (.copy esz x yy) k ρ w=some y):fZ s ps (bC pe ps z (.copy esz x yy)) k ρ w y:=by
 simp only [lJ] at h;have hx:=dK hE x;have hyv:=dK hE yy;unfold aGd at h;generalize bK e yy=vy at h hyv;generalize bK e x=v at h hx;cases v with
 |own t ex=>
  simp only [cC] at h;generalize hst:s[t]? =b at h;cases b with
  |none=>cases h
  |some b=>
   cases b with
   |arr r l=>
    obtain ⟨he,hk⟩:=cJ h;have he:=Nat.eq_of_beq_eq_true he;subst he;obtain ⟨e',n',hx,hat⟩:=hx;obtain ⟨rfl,rfl⟩:=hat.inv hst;exact CA hS hst hx hyv hk
   |_=>cases h
 |pre t len cap ex=>
  simp only [cC] at h;generalize hst:s[t]? =b at h;cases b with
  |none=>cases h
  |some b=>
   cases b with
   |arr r l=>
    obtain ⟨he,hk⟩:=cJ h;have he:=Nat.eq_of_beq_eq_true he;subst he;obtain ⟨e',hx,hat⟩:=hx
    have:=hat.inv hst
    subst this;exact CA hS hst hx hyv hk
   |_=>cases h
 |part t off len cap ex=>
  simp only [cC] at h;generalize hst:s[t]? =b at h;cases b with
  |none=>cases h
  |some b=>
   cases b with
   |arr r l=>
    obtain ⟨he,hk⟩:=cJ h;have he:=Nat.eq_of_beq_eq_true he;subst he;obtain ⟨e',hx,hat⟩:=hx
    have:=hat.inv hst
    subst this;exact CA hS hst hx hyv hk
   |_=>cases h
 |_=>cases h
theorem Z3 (hE:dB s e pe) (hS:cM s ps) {op:lB} (h:lJ e s z op k ρ w=some y):fZ s ps (bC pe ps z op) k ρ w y:=by
 cases op with
 |mov x=>exact fZ.val hS h rfl (dK hE x)
 |pick c a b=>exact W4 hE hS h
 |bin op a b=>exact ZS hE hS h
 |binb n a b=>exact WX hE hS h
 |eqc n g a b=>exact ZT hE hS h
 |un op a=>exact aGE hE hS h
 |conv a x=>exact WZ hE hS h
 |len x=>exact ZU hE hS h
 |lenc n=>exact fZ.val hS h rfl rfl
 |box x=>exact ZV hE hS h
 |alloc c=>exact U6 hS h
 |build z p=>exact U5 hE hS h
 |mkrow a b c d=>exact U9 hE hS h
 |load a p=>exact W7 hE hS h
 |store a p x=>exact U8 hE hS h
 |nilc x=>exact W0 hE hS h
 |fadr o x=>exact W3 hE hS h
 |fld a o x=>exact ZW hE hS h
 |iadr a x i=>exact W5 hE hS h
 |iadra n a x i=>exact U7 hE hS h
 |idx n a g x i=>exact Z0 hE hS h
 |sidx x i=>exact W6 hE hS h
 |slc a x l h' m=>exact Z1 hE hS h
 |mks a z l c=>exact Z2 hE hS h
 |mkf f a b=>exact ZY hE hS h
 |mkm=>exact ZZ hS h
 |lookup n z o m q=>exact QV hE hS h
 |mapu n m q x=>exact W9 hE hS h
 |ext i x=>exact ZX hE hS h
 |append a x b=>exact QW hE hS h
 |copy a x b=>exact XA hE hS h
 |clear a z x=>exact VA hE hS h
 |mm m x xs=>exact aGF hE hS h
 |call m f a=>cases h
 |callv x a=>cases h
 |bad=>cases h
mutual
theorem aLT {bx:Nat->Option (List SV)} {pbx:Nat->Option (List PV)} (hS:cM s ps) (hb: ∀t l,bx t=some l-> ∃q,pbx t=some q/\pvL l=some q): ∀{v u:SV} {p:PV},R s v p->M4 s bx v=some u-> ∃q,EC ps pbx p=some q/\sA u=some q
 | .int k n,u,p,h,hx=>by injection hx with hx;subst hx;rw [show p=_ from h];exact ⟨_,rfl,rfl⟩
 | .bool b,u,p,h,hx=>by injection hx with hx;subst hx;rw [show p=_ from h];exact ⟨_,rfl,rfl⟩
 | .str x,u,p,h,hx=>by injection hx with hx;subst hx;rw [show p=_ from h];exact ⟨_,rfl,rfl⟩
 | .nilf,u,p,h,hx=>by injection hx with hx;subst hx;rw [show p=_ from h];exact ⟨_,rfl,rfl⟩
 | .agg cs,u,p,h,hx=>by
  obtain ⟨q,rfl,h⟩:=h;simp only [M4] at hx;split at hx
  · rename_i l hl
    injection hx with hx;subst hx;obtain ⟨q',h1,h2⟩:=exVL_R hS hb h hl;exact ⟨.agg q',by simp only [EC,h1];rfl,by simp only [sA,h2]⟩
  · cases hx
 | .tup cs,u,p,h,hx=>by
  obtain ⟨q,rfl,h⟩:=h;simp only [M4] at hx;split at hx
  · rename_i l hl
    injection hx with hx;subst hx;obtain ⟨q',h1,h2⟩:=exVL_R hS hb h hl;exact ⟨.tup q',by simp only [EC,h1];rfl,by simp only [sA,h2]⟩
  · cases hx
 | .sl r l,u,p,h,hx=>by injection hx with hx;subst hx;rw [show p=_ from h];exact ⟨_,rfl,rfl⟩
 | .nil e c,u,p,h,hx=>by injection hx with hx;subst hx;rw [show p=_ from h];exact ⟨_,rfl,rfl⟩
 | .own t ex,u,p,h,hx=>by
  simp only [M4,cC] at hx;split at hx
  · rename_i r l hst
    injection hx with hx;subst hx;obtain ⟨e,n,rfl,hat⟩:=h;obtain ⟨rfl,rfl⟩:=hat.inv hst;refine ⟨.sl r.length false (l.map (RT.pv r)),?_,rfl⟩;simp only [EC,hS.arr hst,List.drop_zero];rw [List.take_of_length_le (by simp)]
  · cases hx
 | .pre t len cap ex,u,p,h,hx=>by
  simp only [M4,cC] at hx;split at hx
  · rename_i r l hst
    injection hx with hx;subst hx;obtain ⟨e,rfl,hat⟩:=h
    have:=hat.inv hst
    subst this;refine ⟨.sl r.length false ((l.take len).map (RT.pv r)),?_,rfl⟩;simp only [EC,hS.arr hst,List.drop_zero,List.map_take]
  · cases hx
 | .part t off len cap ex,u,p,h,hx=>by
  simp only [M4,cC] at hx;split at hx
  · rename_i r l hst
    injection hx with hx;subst hx;obtain ⟨e,rfl,hat⟩:=h
    have:=hat.inv hst
    subst this;refine ⟨.sl r.length false (((l.drop off).take len).map (RT.pv r)),?_,rfl⟩;simp only [EC,hS.arr hst,List.map_take,List.map_drop]
  · cases hx
 | .pa t r i a off,u,p,h,hx=>by
  simp only [M4,cC] at hx;split at hx
  · rename_i q l hst
    injection hx with hx;subst hx;obtain ⟨rfl,hat⟩:=h;obtain ⟨rfl,hg⟩:=hat.inv hst;obtain ⟨m,rfl,hm⟩:=mH hg;refine ⟨.rptr (RT.pv r a) off,?_,by simp only [sA,RT.pv_sv]⟩
    have hm':(l.map (RT.pv r))[m]? =some (RT.pv r a):=by simp [hm]
    have e1:(Int.ofNat m).toNat=m:=rfl;simp only [EC,hS.arr hst,e1,hm'];rfl
  · cases hx
 | .bp t n off,u,p,h,hx=>by
  simp only [M4,cC] at hx;split at hx
  · rename_i cs hst
    split at hx
    · rename_i l hl
      injection hx with hx;subst hx;rw [show p=_ from h];obtain ⟨q,h1,h2⟩:=hb t l hl;obtain ⟨c,h3,_⟩:=hS.box hst;refine ⟨.rptr q off,?_,by simp only [sA,h2]⟩
      simp only [EC,h3,Nat.beq_refl,if_true,h1];rfl
    · cases hx
  · cases hx
 | .rptr cs off,u,p,h,hx=>by
  obtain ⟨q,rfl,h⟩:=h;simp only [M4] at hx;split at hx
  · rename_i l hl
    injection hx with hx;subst hx;obtain ⟨q',h1,h2⟩:=exVL_R hS hb h hl;exact ⟨.rptr q' off,by simp only [EC,h1];rfl,by simp only [sA,h2]⟩
  · cases hx
 | .clo f a b,u,p,h,hx=>by
  obtain ⟨pa,pb,rfl,h1,h2⟩:=h;simp only [M4] at hx;split at hx
  · rename_i x y' h3 h4
    injection hx with hx;subst hx;obtain ⟨qa,h5,h6⟩:=exVL_R hS hb h1 h3;obtain ⟨qb,h7,h8⟩:=exVL_R hS hb h2 h4;exact ⟨.clo f qa qb,by simp only [EC,h5,h7],by simp only [sA,h6,h8]⟩
  · cases hx
 | .junk,_,_,_,hx| .undef,_,_,_,hx| .nul,_,_,_,hx| .pb _ _ _,_,_,_,hx| .mp _,_,_,_,hx=>by cases hx
theorem exVL_R {bx:Nat->Option (List SV)} {pbx:Nat->Option (List PV)} (hS:cM s ps) (hb: ∀t l,bx t=some l-> ∃q,pbx t=some q/\pvL l=some q): ∀{v u:List SV} {p:List PV},RL s v p->exVL s bx v=some u-> ∃q,exL ps pbx p=some q/\pvL u=some q
 | [],u,p,h,hx=>by injection hx with hx;subst hx;rw [show p=_ from h];exact ⟨_,rfl,rfl⟩
 |x::xs,u,p,h,hx=>by
  obtain ⟨q,qs,rfl,h1,h2⟩:=h.cons_inv;simp only [exVL] at hx;split at hx
  · rename_i y' ys h3 h4
    injection hx with hx;subst hx;obtain ⟨a,h5,h6⟩:=aLT hS hb h1 h3;obtain ⟨as,h7,h8⟩:=exVL_R hS hb h2 h4;exact ⟨a::as,by simp only [exL,h5,h7],dJ.2 ⟨a,as,rfl,h6,h8⟩⟩
  · cases hx
end
theorem GG (hS:cM s ps): ∀(n t:Nat) (l:List SV),lK s n t=some l-> ∃q,xX ps n t=some q/\pvL l=some q
 |0,t,l,h=>by cases h
 |n+1,t,l,h=>by
  simp only [lK,cC] at h;split at h
  · rename_i cs hst
    obtain ⟨q,h1,h2⟩:=hS.box hst;obtain ⟨u,h3,h4⟩:=exVL_R hS (GG hS n) h2 h;exact ⟨u,by simp only [xX,h1,h3],h4⟩
  · cases h
mutual
theorem XB {bx pbx:Nat->List Nat} (hb: ∀t,bx t=pbx t): ∀{v:SV} {p:PV},R s v p->v.sure=true->SS bx v=iH pbx p
 | .junk,_,_,h=>by cases h
 | .undef,p,h,_| .nul,p,h,_| .nilf,p,h,_| .int _ _,p,h,_| .bool _,p,h,_| .str _,p,h,_| .sl _ _,p,h,_| .nil _ _,p,h,_=>by rw [show p=_ from h];rfl
 | .agg cs,p,h,hs=>by obtain ⟨q,rfl,h⟩:=h;exact tkVL_R hb h hs
 | .tup cs,p,h,hs=>by obtain ⟨q,rfl,h⟩:=h;exact tkVL_R hb h hs
 | .own t ex,p,h,_=>by obtain ⟨e,n,rfl,_⟩:=h;rfl
 | .pre t a b c,p,h,_=>by obtain ⟨e,rfl,_⟩:=h;rfl
 | .part t o a b c,p,h,_=>by obtain ⟨e,rfl,_⟩:=h;rfl
 | .pa t r i a o,p,h,_=>by obtain ⟨rfl,_⟩:=h;simp only [SS,iH,hb]
 | .pb t i o,p,h,_=>by obtain ⟨e,rfl,_⟩:=h;simp only [SS,iH,hb]
 | .bp t n o,p,h,_=>by rw [show p=_ from h];simp only [SS,iH,hb]
 | .rptr cs o,p,h,hs=>by obtain ⟨q,rfl,h⟩:=h;exact tkVL_R hb h hs
 | .mp t,p,h,_=>by rw [show p=_ from h];rfl
 | .clo f a b,p,h,hs=>by
  obtain ⟨pa,pb,rfl,h1,h2⟩:=h;simp only [SV.sure,Bool.and_eq_true] at hs;simp only [SS,iH,tkVL_R hb h1 hs.1,tkVL_R hb h2 hs.2]
theorem tkVL_R {bx pbx:Nat->List Nat} (hb: ∀t,bx t=pbx t): ∀{v:List SV} {p:List PV},RL s v p->sureL v=true->tkVL bx v=toksL pbx p
 | [],p,h,_=>by rw [show p=_ from h];rfl
 |x::xs,p,h,hs=>by
  obtain ⟨q,qs,rfl,h1,h2⟩:=h.cons_inv;simp only [sureL,Bool.and_eq_true] at hs;simp only [tkVL,toksL,XB hb h1 hs.1,tkVL_R hb h2 hs.2]
end
end
end Go.Vm
/- The head of a loop: what the typed machine keeps there, the logical machine keeps there. -/
namespace Go.Vm
section
variable {s : List SB} {ps : cL}
mutual
theorem aNG {n:Nat} (hS:cM s ps) (hB: ∀t l,lK s n t=some l->B3 s n t=cU ps n t): ∀{v u:SV} {p:PV},R s v p->M4 s (lK s n) v=some u->SS (B3 s n) v=iH (cU ps n) p
 | .int _ _,_,p,h,_| .bool _,_,p,h,_| .str _,_,p,h,_| .nilf,_,p,h,_| .sl _ _,_,p,h,_| .nil _ _,_,p,h,_=>by rw [show p=_ from h];rfl
 | .agg cs,u,p,h,hx=>by
  obtain ⟨q,rfl,h⟩:=h;simp only [M4] at hx;split at hx
  · rename_i l hl;exact tkExL hS hB h hl
  · cases hx
 | .tup cs,u,p,h,hx=>by
  obtain ⟨q,rfl,h⟩:=h;simp only [M4] at hx;split at hx
  · rename_i l hl;exact tkExL hS hB h hl
  · cases hx
 | .own t ex,_,p,h,_=>by obtain ⟨e,n,rfl,_⟩:=h;rfl
 | .pre t a b c,_,p,h,_=>by obtain ⟨e,rfl,_⟩:=h;rfl
 | .part t o a b c,_,p,h,_=>by obtain ⟨e,rfl,_⟩:=h;rfl
 | .pa t r i a o,_,p,h,hx=>by
  obtain ⟨rfl,hat⟩:=h;simp only [M4,cC] at hx;split at hx
  · rename_i q l hst
    simp only [SS,iH];cases n with
    |zero=>rfl
    |succ n=>simp only [B3,cU,cC,hst,hS.arr hst]
  · cases hx
 | .bp t m o,u,p,h,hx=>by
  rw [show p=_ from h];simp only [M4,cC] at hx;split at hx
  · split at hx
    · rename_i l hl
      simp only [SS,iH,hB t l hl]
    · cases hx
  · cases hx
 | .rptr cs o,u,p,h,hx=>by
  obtain ⟨q,rfl,h⟩:=h;simp only [M4] at hx;split at hx
  · rename_i l hl;exact tkExL hS hB h hl
  · cases hx
 | .clo f a b,u,p,h,hx=>by
  obtain ⟨pa,pb,rfl,h1,h2⟩:=h;simp only [M4] at hx;split at hx
  · rename_i x y h3 h4
    simp only [SS,iH,tkExL hS hB h1 h3,tkExL hS hB h2 h4]
  · cases hx
 | .junk,_,_,_,hx| .undef,_,_,_,hx| .nul,_,_,_,hx| .pb _ _ _,_,_,_,hx| .mp _,_,_,_,hx=>by cases hx
theorem tkExL {n:Nat} (hS:cM s ps) (hB: ∀t l,lK s n t=some l->B3 s n t=cU ps n t): ∀{v u:List SV} {p:List PV},RL s v p->exVL s (lK s n) v=some u->tkVL (B3 s n) v=toksL (cU ps n) p
 | [],_,p,h,_=>by rw [show p=_ from h];rfl
 |x::xs,u,p,h,hx=>by
  obtain ⟨q,qs,rfl,h1,h2⟩:=h.cons_inv;simp only [exVL] at hx;split at hx
  · rename_i a b h3 h4
    simp only [tkVL,toksL,aNG hS hB h1 h3,tkExL hS hB h2 h4]
  · cases hx
end
theorem ID (hS:cM s ps): ∀(n t:Nat) (l:List SV),lK s n t=some l->B3 s n t=cU ps n t
 |0,t,l,h=>rfl
 |n+1,t,l,h=>by
  simp only [lK,cC] at h;split at h
  · rename_i cs hst
    obtain ⟨q,h1,h2⟩:=hS.box hst;simp only [B3,cU,cC,hst,h1];exact tkExL hS (ID hS n) h2 h
  · cases h
theorem LV {b:SB} {q:jZ} (h:RB s b q) (hs:zS b=true):HN b=rD q:=by
 cases b with
 |box cs=>obtain ⟨c,rfl,h⟩:=h;exact tkVL_R (fun _=>rfl) h hs
 |arr r l=>rw [show q=_ from h];rfl
 |set l=>rw [show q=_ from h];rfl
 |dead=>rw [show q=_ from h];rfl
theorem IE (hS:cM s ps): ∀(n:Nat) (ts seen m:List Nat),ET s n ts seen=some m->CS ps n ts seen=some m
 |n,[],seen,m,h=>by
  cases n<;>(simp only [ET] at h;exact h)
 |0,_::_,_,_,h=>by cases h
 |n+1,t::ts,seen,m,h=>by
  simp only [ET,cC] at h;simp only [CS];cases hh:has seen t with
  |true=>rw [hh] at h;simp only [cond_true] at h;simp only [if_true];exact IE hS n ts seen m h
  |false=>
   rw [hh] at h;simp only [cond_false] at h;simp only [Bool.false_eq_true,if_false];split at h
   · rename_i b hst
     obtain ⟨q,h1,h2⟩:=hS.at_ t b hst;cases hb:zS b with
     |false=>rw [hb] at h;cases h
     |true=>
      rw [hb] at h;simp only [cond_true] at h;rw [h1,LV h2 hb] at*;exact IE hS n _ _ m h
   · cases h
theorem IF: ∀{t u:Nat} {m:List Nat},pY t m=some u->m[u]? =some t
 |t,u,[],h=>by cases h
 |t,u,x::m,h=>by
  simp only [pY] at h;cases hb:Nat.beq x t with
  |true=>rw [hb] at h;simp at h;subst h;simp [Nat.eq_of_beq_eq_true hb]
  |false=>
   rw [hb] at h;simp only [Bool.false_eq_true,if_false,Option.map_eq_some_iff] at h;obtain ⟨v,hv,rfl⟩:=h;simpa using IF hv
def IG (m:List Nat) (s s':List SB):Prop:= ∀(t u:Nat) (b:SB),pY t m=some u->s[t]? =some b->match b with
 | .arr r l=>s'[u]? =some (.arr r l)
 | .dead=>s'[u]? =some .dead
 |_=>True
mutual
theorem XC {m:List Nat} {s':List SB} (hr:IG m s s'): ∀{v u:SV} {p:PV},R s v p->qG m v=some u-> ∃q,CT m p=some q/\R s' u q
 | .junk,_,_,_,hx=>by cases hx
 | .undef,u,p,h,hx| .nul,u,p,h,hx| .nilf,u,p,h,hx| .int _ _,u,p,h,hx| .bool _,u,p,h,hx| .str _,u,p,h,hx| .sl _ _,u,p,h,hx| .nil _ _,u,p,h,hx=>by
  injection hx with hx;subst hx;rw [show p=_ from h];exact ⟨_,rfl,rfl⟩
 | .agg cs,u,p,h,hx=>by
  obtain ⟨q,rfl,h⟩:=h;simp only [qG] at hx;split at hx
  · rename_i l hl
    injection hx with hx;subst hx;obtain ⟨q',h1,h2⟩:=renVL_R hr h hl;exact ⟨.agg q',by simp only [CT,h1];rfl,q',rfl,h2⟩
  · cases hx
 | .tup cs,u,p,h,hx=>by
  obtain ⟨q,rfl,h⟩:=h;simp only [qG] at hx;split at hx
  · rename_i l hl
    injection hx with hx;subst hx;obtain ⟨q',h1,h2⟩:=renVL_R hr h hl;exact ⟨.tup q',by simp only [CT,h1];rfl,q',rfl,h2⟩
  · cases hx
 | .own t ex,u,p,h,hx=>by
  obtain ⟨e,n,rfl,hat⟩:=h;simp only [qG] at hx;split at hx
  · rename_i v hv
    injection hx with hx;subst hx;refine ⟨.own v e 0 n n ex,by simp only [CT,hv];rfl,e,n,rfl,?_⟩
    rcases hat with ⟨r,l,h1,h2,h3⟩|h1
    · exact .inl ⟨r,l,hr t v _ hv h1,h2,h3⟩
    · exact .inr (hr t v _ hv h1)
  · cases hx
 | .pre t len cap ex,u,p,h,hx=>by
  obtain ⟨e,rfl,hat⟩:=h;simp only [qG] at hx;split at hx
  · rename_i v hv
    injection hx with hx;subst hx;refine ⟨.own v e 0 len cap ex,by simp only [CT,hv];rfl,e,rfl,?_⟩
    rcases hat with ⟨r,l,h1,h2⟩|h1
    · exact .inl ⟨r,l,hr t v _ hv h1,h2⟩
    · exact .inr (hr t v _ hv h1)
  · cases hx
 | .part t off len cap ex,u,p,h,hx=>by
  obtain ⟨e,rfl,hat⟩:=h;simp only [qG] at hx;split at hx
  · rename_i v hv
    injection hx with hx;subst hx;refine ⟨.own v e off len cap ex,by simp only [CT,hv];rfl,e,rfl,?_⟩
    rcases hat with ⟨r,l,h1,h2⟩|h1
    · exact .inl ⟨r,l,hr t v _ hv h1,h2⟩
    · exact .inr (hr t v _ hv h1)
  · cases hx
 | .pa t r i a off,u,p,h,hx=>by
  obtain ⟨rfl,hat⟩:=h;simp only [qG] at hx;split at hx
  · rename_i v hv
    injection hx with hx;subst hx;refine ⟨.ptr v r.length i.toNat off,by simp only [CT,hv];rfl,r.length,rfl,?_⟩
    rcases hat with ⟨l,h1,h2⟩|h1
    · exact .inl ⟨r,l,hr t v _ hv h1,by rw [h2];rfl⟩
    · exact .inr (hr t v _ hv h1)
  · cases hx
 | .pb t i off,u,p,h,hx=>by
  obtain ⟨e,rfl,hat⟩:=h;simp only [qG] at hx;split at hx
  · rename_i v hv
    injection hx with hx;subst hx;refine ⟨.ptr v e i.toNat off,by simp only [CT,hv];rfl,e,rfl,?_⟩
    rcases hat with ⟨r,l,h1,h2⟩|h1
    · exact .inl ⟨r,l,hr t v _ hv h1,h2⟩
    · exact .inr (hr t v _ hv h1)
  · cases hx
 | .bp t n off,u,p,h,hx=>by
  rw [show p=_ from h];simp only [qG] at hx;split at hx
  · rename_i v hv
    injection hx with hx;subst hx;exact ⟨.ptr v n 0 off,by simp only [CT,hv];rfl,rfl⟩
  · cases hx
 | .rptr cs off,u,p,h,hx=>by
  obtain ⟨q,rfl,h⟩:=h;simp only [qG] at hx;split at hx
  · rename_i l hl
    injection hx with hx;subst hx;obtain ⟨q',h1,h2⟩:=renVL_R hr h hl;exact ⟨.rptr q' off,by simp only [CT,h1];rfl,q',rfl,h2⟩
  · cases hx
 | .mp t,u,p,h,hx=>by
  rw [show p=_ from h];simp only [qG] at hx;split at hx
  · rename_i v hv
    injection hx with hx;subst hx;exact ⟨.mp v,by simp only [CT,hv];rfl,rfl⟩
  · cases hx
 | .clo f a b,u,p,h,hx=>by
  obtain ⟨pa,pb,rfl,h1,h2⟩:=h;simp only [qG] at hx;split at hx
  · rename_i x y h3 h4
    injection hx with hx;subst hx;obtain ⟨qa,h5,h6⟩:=renVL_R hr h1 h3;obtain ⟨qb,h7,h8⟩:=renVL_R hr h2 h4;exact ⟨.clo f qa qb,by simp only [CT,h5,h7],qa,qb,rfl,h6,h8⟩
  · cases hx
theorem renVL_R {m:List Nat} {s':List SB} (hr:IG m s s'): ∀{v u:List SV} {p:List PV},RL s v p->renVL m v=some u-> ∃q,renL m p=some q/\RL s' u q
 | [],u,p,h,hx=>by injection hx with hx;subst hx;rw [show p=_ from h];exact ⟨_,rfl,rfl⟩
 |x::xs,u,p,h,hx=>by
  obtain ⟨q,qs,rfl,h1,h2⟩:=h.cons_inv;simp only [renVL] at hx;split at hx
  · rename_i a b h3 h4
    injection hx with hx;subst hx;obtain ⟨a',h5,h6⟩:=XC hr h1 h3;obtain ⟨b',h7,h8⟩:=renVL_R hr h2 h4;exact ⟨a'::b',by simp only [renL,h5,h7],RL.cons h6 h8⟩
  · cases hx
end
theorem aGG {m:List Nat} {s':List SB} (hr:IG m s s') {b c:SB} {q:jZ} (h:RB s b q) (hx:WJ m b=some c): ∃q',mX m q=some q'/\RB s' c q':=by
 cases b with
 |box cs=>
  obtain ⟨p,rfl,h⟩:=h;simp only [WJ] at hx;split at hx
  · rename_i l hl
    injection hx with hx;subst hx;obtain ⟨q',h1,h2⟩:=renVL_R hr h hl;exact ⟨.box q',by simp only [mX,h1];rfl,q',rfl,h2⟩
  · cases hx
 |arr r l=>injection hx with hx;subst hx;rw [show q=_ from h];exact ⟨_,rfl,rfl⟩
 |set l=>injection hx with hx;subst hx;rw [show q=_ from h];exact ⟨_,rfl,rfl⟩
 |dead=>injection hx with hx;subst hx;rw [show q=_ from h];exact ⟨_,rfl,rfl⟩
theorem yP {m:List Nat}: ∀{ts:List Nat} {s1:List SB},JR s m ts=some s1->s1.length=ts.length/\ ∀(j t:Nat),ts[j]? =some t-> ∃b c,s[t]? =some b/\WJ m b=some c/\s1[j]? =some c
 | [],s1,h=>by injection h with h;subst h;exact ⟨rfl,fun j t h=>by simp at h⟩
 |t::ts,s1,h=>by
  simp only [JR,cC] at h;split at h
  · rename_i b hb
    split at h
    · rename_i c r hc hr
      injection h with h;subst h;obtain ⟨h1,h2⟩:=yP hr;refine ⟨by simp [h1],fun j u hj=>?_⟩
      cases j with
      |zero=>simp at hj;subst hj;exact ⟨b,c,hb,hc,rfl⟩
      |succ j=>simpa using h2 j u (by simpa using hj)
    · cases h
  · cases h
theorem EX (hS:cM s ps) {m:List Nat} {s':List SB} (hr:IG m s s'): ∀{ts:List Nat} {s1:List SB},JR s m ts=some s1-> ∃p1,xY ps m ts=some p1/\p1.length=s1.length/\ ∀(j:Nat) (b:SB),s1[j]? =some b-> ∃q,p1[j]? =some q/\RB s' b q
 | [],s1,h=>by injection h with h;subst h;exact ⟨[],rfl,rfl,fun j b h=>by simp at h⟩
 |t::ts,s1,h=>by
  simp only [JR,cC] at h;split at h
  · rename_i b hb
    split at h
    · rename_i c r hc hr'
      injection h with h;subst h;obtain ⟨q,h1,h2⟩:=hS.at_ t b hb;obtain ⟨q',h3,h4⟩:=aGG hr h2 hc;obtain ⟨p1,h5,h6,h7⟩:=EX hS hr hr';refine ⟨q'::p1,by simp only [xY,h1,h3,h5],by simp [h6],fun j x hj=>?_⟩
      cases j with
      |zero=>simp at hj;subst hj;exact ⟨q',rfl,h4⟩
      |succ j=>simpa using h7 j x (by simpa using hj)
    · cases h
  · cases h
theorem IG.of {m:List Nat} {s1 l:List SB} (h:JR s m m=some s1):IG m s (s1++l):=fun t u b hu hb=>by
 have hm:=IF hu;obtain ⟨h1,h2⟩:=yP h;obtain ⟨b',c,h3,h4,h5⟩:=h2 u t hm;rw [hb] at h3;injection h3 with h3;subst h3;have hlt:=(List.getElem?_eq_some_iff.1 h5).1;cases b with
 |arr r l'=>injection h4 with h4;subst h4;rw [List.getElem?_append_left hlt];exact h5
 |dead=>injection h4 with h4;subst h4;rw [List.getElem?_append_left hlt];exact h5
 |_=>trivial
theorem vC: ∀(rk:List (Nat×List PT)) (n:Nat),(xO rk n).length=n
 | [],n=>by simp [xO]
 |(m,r)::q,n=>by
  simp only [xO];cases hc:(Nat.beq m n&&Nat.beq r.length n) with
  |true=>simp only [Bool.and_eq_true] at hc;exact Nat.eq_of_beq_eq_true hc.2
  |false=>exact vC q n
theorem EY {rk:List (Nat×List PT)} {e:SE} {m:List Nat}: ∀{live:List (Nat×Option Nat)} {nx:Nat} {e1:SE} {s2:List SB},xP rk e m nx live=some (e1,s2)-> ∀(j:Nat) (b:SB),s2[j]? =some b-> ∃r,b= .arr r []
 | [],nx,e1,s2,h,j,b,hj=>by
  simp only [xP,Option.some.injEq,Prod.mk.injEq] at h;rw [<- h.2] at hj;simp at hj
 |(t,k)::live,nx,e1,s2,h,j,b,hj=>by
  simp only [xP] at h;split at h
  · split at h
    · rename_i p hp
      simp only [Option.some.injEq,Prod.mk.injEq] at h;obtain ⟨rfl,rfl⟩:=h;cases j with
      |zero=>simp at hj;exact ⟨_,hj.symm⟩
      |succ j=>exact EY (e1:=p.1) (s2:=p.2) hp j b (by simpa using hj)
    · cases h
  · split at h
    · rename_i v' p hv hp
      simp only [Option.some.injEq,Prod.mk.injEq] at h;obtain ⟨rfl,rfl⟩:=h;exact EY (e1:=p.1) (s2:=p.2) hp j b hj
    · cases h
mutual
theorem EZ {m:List Nat}: ∀{v u:SV},qG m v=some u->u.sure=true
 | .junk,_,h=>by cases h
 | .undef,u,h| .nul,u,h| .nilf,u,h| .int _ _,u,h| .bool _,u,h| .str _,u,h| .sl _ _,u,h| .nil _ _,u,h=>by injection h with h;subst h;rfl
 | .agg cs,u,h=>by
  simp only [qG] at h;split at h
  · rename_i l hl;injection h with h;subst h;exact renVL_sure hl
  · cases h
 | .tup cs,u,h=>by
  simp only [qG] at h;split at h
  · rename_i l hl;injection h with h;subst h;exact renVL_sure hl
  · cases h
 | .rptr cs _,u,h=>by
  simp only [qG] at h;split at h
  · rename_i l hl;injection h with h;subst h;exact renVL_sure hl
  · cases h
 | .own _ _,u,h=>by simp only [qG] at h;split at h<;>first|(injection h with h;subst h;rfl)|cases h
 | .pre _ _ _ _,u,h=>by simp only [qG] at h;split at h<;>first|(injection h with h;subst h;rfl)|cases h
 | .part _ _ _ _ _,u,h=>by simp only [qG] at h;split at h<;>first|(injection h with h;subst h;rfl)|cases h
 | .pa _ _ _ _ _,u,h=>by simp only [qG] at h;split at h<;>first|(injection h with h;subst h;rfl)|cases h
 | .pb _ _ _,u,h=>by simp only [qG] at h;split at h<;>first|(injection h with h;subst h;rfl)|cases h
 | .bp _ _ _,u,h=>by simp only [qG] at h;split at h<;>first|(injection h with h;subst h;rfl)|cases h
 | .mp _,u,h=>by simp only [qG] at h;split at h<;>first|(injection h with h;subst h;rfl)|cases h
 | .clo f a b,u,h=>by
  simp only [qG] at h;split at h
  · rename_i x y h1 h2
    injection h with h;subst h;simp only [SV.sure,renVL_sure h1,renVL_sure h2,Bool.and_self]
  · cases h
theorem renVL_sure {m:List Nat}: ∀{v u:List SV},renVL m v=some u->sureL u=true
 | [],u,h=>by injection h with h;subst h;rfl
 |x::xs,u,h=>by
  simp only [renVL] at h;split at h
  · rename_i a b h1 h2
    injection h with h;subst h;simp only [sureL,EZ h1,renVL_sure h2,Bool.and_self]
  · cases h
end
theorem Z4 {s:List SB} {v:SV} {p:PV} (h:R s v p): ∀k:Option Nat,v.sure=true->R s (LP k v) (exOff k p)
 |none,_=>h
 |some _,hs=>by
  cases v with
  |own t ex=>obtain ⟨e,n,rfl,h⟩:=h;exact ⟨e,n,rfl,h⟩
  |pre t l c ex=>obtain ⟨e,rfl,h⟩:=h;exact ⟨e,rfl,h⟩
  |part t o l c ex=>obtain ⟨e,rfl,h⟩:=h;exact ⟨e,rfl,h⟩
  |junk=>cases hs
  |undef|nul|nilf|int _ _|bool _|str _|bp _ _ _|mp _|sl _ _|nil _ _=>rw [show p=_ from h];rfl
  |agg _|tup _|rptr _ _=>obtain ⟨q,rfl,h⟩:=h;exact ⟨q,rfl,h⟩
  |clo _ _ _=>obtain ⟨q,q2,rfl,h⟩:=h;exact ⟨q,q2,rfl,h⟩
  |pa _ _ _ _ _=>obtain ⟨rfl,h⟩:=h;exact ⟨rfl,h⟩
  |pb _ _ _=>obtain ⟨q,rfl,h⟩:=h;exact ⟨q,rfl,h⟩
theorem QX {v:SV} (h:v.sure=true) (k:Option Nat):(LP k v).sure=true:=by
 unfold LP;split<;>first|rfl|exact h
theorem LW {rk:List (Nat×List PT)} {e:SE} {pe:tB} (hE:dB s e pe) {m:List Nat} {s':List SB} (hr:IG m s s'): ∀{live:List (Nat×Option Nat)} {nx:Nat} {e1:SE} {s2:List SB},xP rk e m nx live=some (e1,s2)->(∀(j:Nat) (b:SB),s2[j]? =some b->s'[nx+j]? =some b)->
 ∃p1 q2,rE pe m nx live=some (p1,q2)/\dB s' e1 p1/\q2.length=s2.length/\ ∀(j:Nat) (b:SB),s2[j]? =some b-> ∃q,q2[j]? =some q/\RB s' b q
 | [],nx,e1,s2,h,_=>by
  simp only [xP,Option.some.injEq,Prod.mk.injEq] at h;obtain ⟨rfl,rfl⟩:=h;exact ⟨[],[],rfl,rfl,rfl,fun j b h=>by simp at h⟩
 |(t,k)::live,nx,e1,s2,h,hs=>by
  have hlk:=hE.lk t;simp only [xP] at h;split at h
  · rename_i kk esz en hv
    split at h
    · rename_i p hp
      simp only [Option.some.injEq,Prod.mk.injEq] at h;obtain ⟨rfl,rfl⟩:=h;rw [hv] at hlk;obtain ⟨p1,q2,h1,h2,h3,h4⟩:=LW (live:=live) (nx:=nx+1) (e1:=p.1) (s2:=p.2) hE hr hp (fun j b hj=>by
       have:=hs (j+1) b (by simpa using hj)
       rw [show nx+1+j=nx+(j+1) by omega];exact this)
      refine ⟨(t,.own nx esz 0 0 0 false)::p1,.arr esz []::q2,?_,⟨_,_,rfl,⟨esz,0,rfl,.inl ⟨xO rk esz,[],by simpa using hs 0 _ rfl,(vC rk esz).symm,rfl⟩⟩,h2⟩,by simp [h3],fun j b hj=>?_⟩
      · have hlk':lk t pe= .sl en true []:=hlk
        simp only [rE,hlk',h1];rfl
      · cases j with
        |zero=>simp at hj;subst hj;exact ⟨_,rfl,by show _=_;rw [vC];rfl⟩
        |succ j=>simpa using h4 j b (by simpa using hj)
    · cases h
  · rename_i hne
    split at h
    · rename_i v' p hv hp
      simp only [Option.some.injEq,Prod.mk.injEq] at h;obtain ⟨rfl,rfl⟩:=h;obtain ⟨q',h5,h6⟩:=XC hr hlk hv;obtain ⟨p1,q2,h1,h2,h3,h4⟩:=LW (live:=live) (e1:=p.1) (s2:=p.2) hE hr hp hs;refine ⟨(t,exOff _ q')::p1,q2,?_,⟨_,_,rfl,Z4 h6 _ (EZ hv),h2⟩,h3,h4⟩;simp only [rE];split
      · rename_i esz x hx
        exfalso;rw [hx] at hlk;generalize JN t e=v0 at hlk hv hne;cases v0 with
        |junk=>cases hv
        |nil e' c=>
         have hlk':PV.sl x true []= .sl e' c []:=hlk;injection hlk' with h1 h2;subst h2;exact hne _ _ rfl rfl
        |undef|nul|nilf|int _ _|bool _|str _|bp _ _ _|mp _=>cases (show PV.sl x true []=_ from hlk)
        |sl r l=>cases (show PV.sl x true []=_ from hlk)
        |agg _|tup _|rptr _ _=>obtain ⟨q,hq,_⟩:=hlk;cases hq
        |clo _ _ _=>obtain ⟨q,q2,hq,_⟩:=hlk;cases hq
        |own _ _=>obtain ⟨q,q2,hq,_⟩:=hlk;cases hq
        |pre _ _ _ _=>obtain ⟨q,hq,_⟩:=hlk;cases hq
        |part _ _ _ _ _=>obtain ⟨q,hq,_⟩:=hlk;cases hq
        |pa _ _ _ _ _=>obtain ⟨hq,_⟩:=hlk;cases hq
        |pb _ _ _=>obtain ⟨q,hq,_⟩:=hlk;cases hq
      · simp only [h5,h1]
    · cases h
def aGj (s:List SB):Prop:= ∀(t:Nat) (cs:List SV),s[t]? =some (.box cs)->sureL cs=true
def KF:SE->Prop
 | []=>True
 |(_,v)::r=>v.sure=true/\KF r
theorem KF.lk: ∀{e:SE},KF e-> ∀t,(JN t e).sure=true
 | [],_,t=>rfl
 |(u,v)::r,h,t=>by
  simp only [JN];cases hb:Nat.beq u t with
  |true=>exact h.1
  |false=>exact KF.lk h.2 t
theorem CB {rk:List (Nat×List PT)} {e:SE} {m:List Nat}: ∀{live:List (Nat×Option Nat)} {nx:Nat} {e1:SE} {s2:List SB},xP rk e m nx live=some (e1,s2)->KF e1
 | [],nx,e1,s2,h=>by
  simp only [xP,Option.some.injEq,Prod.mk.injEq] at h;rw [<- h.1];trivial
 |(t,k)::live,nx,e1,s2,h=>by
  simp only [xP] at h;split at h
  · split at h
    · rename_i p hp
      simp only [Option.some.injEq,Prod.mk.injEq] at h;obtain ⟨rfl,rfl⟩:=h;exact ⟨rfl,CB (e1:=p.1) (s2:=p.2) hp⟩
    · cases h
  · split at h
    · rename_i v' p hv hp
      simp only [Option.some.injEq,Prod.mk.injEq] at h;obtain ⟨rfl,rfl⟩:=h;exact ⟨QX (EZ hv) _,CB (e1:=p.1) (s2:=p.2) hp⟩
    · cases h
theorem KG: ∀{l:List SV},sureL l=true-> ∀{n:Nat} {v:SV},nth l n=some v->v.sure=true
 | [],_,_,_,h=>by cases h
 |x::xs,hs,0,v,h=>by injection h with h;subst h;simp only [sureL,Bool.and_eq_true] at hs;exact hs.1
 |x::xs,hs,n+1,v,h=>by simp only [sureL,Bool.and_eq_true] at hs;exact KG hs.2 (n:=n) h
theorem KH: ∀{l:List SV},sureL l=true-> ∀(n:Nat) {v:SV},v.sure=true->sureL (l.set n v)=true
 | [],_,n,v,_=>rfl
 |x::xs,hs,0,v,h=>by simp only [sureL,Bool.and_eq_true] at hs;simp [sureL,h,hs.2]
 |x::xs,hs,n+1,v,h=>by simp only [sureL,Bool.and_eq_true] at hs;simp [sureL,hs.1,KH hs.2 n h]
theorem RL.set {s:List SB}: ∀{xs:List SV} {ps:List PV},RL s xs ps-> ∀(n:Nat) {v:SV} {p:PV},R s v p->RL s (xs.set n v) (ps.set n p)
 | [],ps,h,n,v,p,_=>by rw [show ps=[] from h];exact RL.nil
 |x::xs,ps,h,0,v,p,hv=>by
  obtain ⟨a,q,rfl,h1,h2⟩:=h.cons_inv;exact RL.cons hv h2
 |x::xs,ps,h,n+1,v,p,hv=>by
  obtain ⟨a,q,rfl,h1,h2⟩:=h.cons_inv;exact RL.cons h1 (RL.set h2 n hv)
structure Z5 (st:qF) (p:St):Prop where
 r:A7 st p
 s:aGj st.sto
 e:KF st.env
theorem QY {rk:List (Nat×List PT)} {st:qF} {p:St} (h:Z5 st p) (t c esz:Nat):Z5 (HO rk st t c esz) (rF p t c esz):=by
 unfold HO rF;rw [cC];cases hst:st.sto[t]? with
 |none=>
  have:p.sto[t]? =none:=by
   rw [List.getElem?_eq_none_iff] at hst ⊢;rw [h.r.sto.len];exact hst
  rw [this];exact h
 |some b=>
  obtain ⟨q,h1,h2⟩:=h.r.sto.at_ t b hst;rw [h1];cases b with
  |arr r l=>rw [show q=_ from h2];exact h
  |set l=>rw [show q=_ from h2];exact h
  |dead=>rw [show q=_ from h2];exact h
  |box cs=>
   obtain ⟨pc,rfl,h3⟩:=h2;dsimp only;cases hc:nth cs c with
   |none=>
    have:pc[c]? =none:=by
     rw [cC,List.getElem?_eq_none_iff] at hc;rw [List.getElem?_eq_none_iff,h3.length];exact hc
    rw [this];exact h
   |some v=>
    obtain ⟨pv,h4,h5⟩:=h3.nth hc;rw [h4];have hsure:=KG (h.s t cs hst) hc;have hcs:=h.s t cs hst;have other:(∀e,pv≠ .sl e true [])->(∀e,v≠ .nil e true)->Z5 (match some v with
     |some (.nil _ true)=>{st with sto:=st.sto.set t (.box (cs.set c (.own st.sto.length false)))++[.arr (xO rk esz) []]}
     |_=>st) (match some pv with
     |some (.sl _ true [])=>{p with sto:=p.sto.set t (.box (pc.set c (.own p.sto.length esz 0 0 0 false)))++[.arr esz []]}
     |_=>p):=by
     intro n1 n2;split
     · rename_i e he;injection he with he;exact absurd he (n2 e)
     · split
       · rename_i e he;injection he with he;exact absurd he (n1 e)
       · exact h
    cases v with
    |junk=>cases hsure
    |nil e' cl=>
     have h5':pv= .sl e' cl []:=h5;subst h5';cases cl with
     |false=>exact other (fun e he=>by cases he) (fun e he=>by cases he)
     |true=>
      dsimp only;have hlt:=(List.getElem?_eq_some_iff.1 hst).1;have hfr:Fr [] st.sto (st.sto.set t (.box (cs.set c (.own st.sto.length false)))++[.arr (xO rk esz) []]):=fun u x hu=>by
       by_cases hut:t=u
       · subst hut;rw [hst] at hu;injection hu with hu;subst hu;trivial
       · have hul:=(List.getElem?_eq_some_iff.1 hu).1
         have:(st.sto.set t (.box (cs.set c (.own st.sto.length false)))++[.arr (xO rk esz) []])[u]? =some x:=by
          rw [List.getElem?_append_left (by simpa using hul),List.getElem?_set];simp [hut,hu]
         cases x with
         |arr r l=>exact .inl ⟨l,this,rfl,fun _=>rfl⟩
         |dead=>exact this
         |_=>trivial
      have hlen:(st.sto.set t (.box (cs.set c (.own st.sto.length false)))).length=st.sto.length:=by simp
      have hown:R (st.sto.set t (.box (cs.set c (.own st.sto.length false)))++[.arr (xO rk esz) []]) (.own st.sto.length false) (.own p.sto.length esz 0 0 0 false):=by
       refine ⟨esz,0,by rw [h.r.sto.len],.inl ⟨xO rk esz,[],?_,(vC rk esz).symm,rfl⟩⟩
       rw [List.getElem?_append_right (by simp)];simp
      refine ⟨⟨dB.ext hfr h.r.env,⟨by simp [h.r.sto.len],fun u x hu=>?_⟩,h.r.fz,h.r.kn⟩,fun u x hu=>?_,h.e⟩
      · rcases Nat.lt_or_ge u st.sto.length with hul|hul
        · rw [List.getElem?_append_left (by simpa using hul),List.getElem?_set] at hu
          by_cases hut:t=u
          · subst hut
            simp [hlt] at hu;subst hu;refine ⟨.box (pc.set c (.own p.sto.length esz 0 0 0 false)),?_,_,rfl,RL.set (RL.ext hfr h3) c hown⟩;rw [List.getElem?_append_left (by simp [h.r.sto.len,hul]),List.getElem?_set]
            simp [h.r.sto.len,hul]
          · simp [hut] at hu
            obtain ⟨q,h6,h7⟩:=h.r.sto.at_ u x hu;refine ⟨q,?_,h7.ext hfr⟩;rw [List.getElem?_append_left (by simp [h.r.sto.len,hul]),List.getElem?_set]
            simp [hut,h6]
        · rw [List.getElem?_append_right (by simpa using hul)] at hu
          simp only [hlen] at hu;have hu0:u-st.sto.length=0:=by
           rcases Nat.eq_zero_or_pos (u-st.sto.length) with h|h
           · exact h
           · rw [List.getElem?_eq_none (by simp;omega)] at hu;cases hu
          rw [hu0] at hu;simp at hu;subst hu;refine ⟨.arr esz [],?_,by show _=_;rw [vC];rfl⟩
          rw [List.getElem?_append_right (by simp [h.r.sto.len];omega)]
          simp [h.r.sto.len,hu0]
      · rcases Nat.lt_or_ge u st.sto.length with hul|hul
        · rw [List.getElem?_append_left (by simpa using hul),List.getElem?_set] at hu
          by_cases hut:t=u
          · subst hut
            simp [hlt] at hu;subst hu;exact KH hcs c rfl
          · simp [hut] at hu;exact h.s u x hu
        · rw [List.getElem?_append_right (by simpa using hul)] at hu
          cases hj:u- (st.sto.set t (.box (cs.set c (.own st.sto.length false)))).length with
          |zero=>rw [hj] at hu;simp at hu
          |succ j=>rw [hj] at hu;simp at hu
    |undef|nul|nilf|int _ _|bool _|str _|bp _ _ _|mp _=>exact other (fun e he=>by rw [show pv=_ from h5] at he;cases he) (fun e he=>by cases he)
    |sl r l=>exact other (fun e he=>by rw [show pv=_ from h5] at he;cases he) (fun e he=>by cases he)
    |agg _|tup _|rptr _ _=>exact other (fun e he=>by obtain ⟨q,hq,_⟩:=h5;rw [hq] at he;cases he) (fun e he=>by cases he)
    |clo _ _ _=>exact other (fun e he=>by obtain ⟨q,q2,hq,_⟩:=h5;rw [hq] at he;cases he) (fun e he=>by cases he)
    |own _ _=>exact other (fun e he=>by obtain ⟨q,q2,hq,_⟩:=h5;rw [hq] at he;cases he) (fun e he=>by cases he)
    |pre _ _ _ _|part _ _ _ _ _|pb _ _ _=>exact other (fun e he=>by obtain ⟨q,hq,_⟩:=h5;rw [hq] at he;cases he) (fun e he=>by cases he)
    |pa _ _ _ _ _=>exact other (fun e he=>by obtain ⟨hq,_⟩:=h5;rw [hq] at he;cases he) (fun e he=>by cases he)
theorem LX {p:St} {t c esz:Nat} (h: ∀cs,p.sto[t]?≠some (.box cs)):rF p t c esz=p:=by
 unfold rF;split
 · rename_i cs hcs;exact absurd hcs (h cs)
 · rfl
theorem XD {st:qF} {p:St} (h:Z5 st p) {v:SV} {q:PV} (hv:R st.sto v q) (hs:v≠ .junk):(∃t,WK v=some t/\GS q=some t)\/(WK v=none/\ ∀t,GS q=some t-> ∀cs,p.sto[t]?≠some (.box cs)):=by
 cases v with
 |junk=>exact absurd rfl hs
 |bp u m off=>
  have hq:q= .ptr u m 0 off:=hv;subst hq;cases off with
  |zero=>exact .inl ⟨u,rfl,rfl⟩
  |succ off=>exact .inr ⟨rfl,fun t ht=>by cases ht⟩
 |pb u i off=>
  obtain ⟨e',hq,hat⟩:=hv;subst hq;refine .inr ⟨rfl,fun t ht cs hcs=>?_⟩
  have:t=u:=by
   unfold GS at ht;split at ht
   · rename_i heq;injection heq with e1;injection ht with ht;rw [<- ht,e1]
   · cases ht
  subst this;rcases hat with ⟨r,l,h1,_⟩|h1
  · rw [h.r.sto.arr h1] at hcs;cases hcs
  · obtain ⟨q,h2,h3⟩:=h.r.sto.at_ t _ h1
    rw [hcs] at h2;injection h2 with h2;subst h2;cases (show jZ.box cs= .dead from h3)
 |pa u r i a off=>
  obtain ⟨hq,hat⟩:=hv;subst hq;refine .inr ⟨rfl,fun t ht cs hcs=>?_⟩
  have:t=u:=by
   unfold GS at ht;split at ht
   · rename_i heq;injection heq with e1;injection ht with ht;rw [<- ht,e1]
   · cases ht
  subst this;rcases hat with ⟨l,h1,_⟩|h1
  · rw [h.r.sto.arr h1] at hcs;cases hcs
  · obtain ⟨q,h2,h3⟩:=h.r.sto.at_ t _ h1
    rw [hcs] at h2;injection h2 with h2;subst h2;cases (show jZ.box cs= .dead from h3)
 |undef|nul|nilf|int _ _|bool _|str _|mp _|sl _ _|nil _ _=>exact .inr ⟨rfl,fun t ht=>by rw [show q=_ from hv] at ht;cases ht⟩
 |agg _|tup _|rptr _ _=>exact .inr ⟨rfl,fun t ht=>by obtain ⟨_,rfl,_⟩:=hv;cases ht⟩
 |clo _ _ _=>exact .inr ⟨rfl,fun t ht=>by obtain ⟨_,_,rfl,_⟩:=hv;cases ht⟩
 |own _ _=>exact .inr ⟨rfl,fun t ht=>by obtain ⟨_,_,rfl,_⟩:=hv;cases ht⟩
 |pre _ _ _ _|part _ _ _ _ _=>exact .inr ⟨rfl,fun t ht=>by obtain ⟨_,rfl,_⟩:=hv;cases ht⟩
theorem aGH {st:qF} {p:St} (h:Z5 st p) {v:SV} {q:PV} (hv:R st.sto v q) (hs:v.sure=true):(∃t,ZP v=some t/\M8 q=some t)\/(ZP v=none/\ ∀t,M8 q=some t-> ∀cs,p.sto[t]?≠some (.box cs)):=by
 have hj:v≠ .junk:=fun e=>by subst e;cases hs
 by_cases hc: ∃f a b,v= .clo f a b
 · obtain ⟨f,a,b,rfl⟩:=hc
   obtain ⟨pa,pb,rfl,h1,h2⟩:=hv;cases b with
   |nil=>
    have:pb=[]:=h2
    subst this;exact .inr ⟨rfl,fun t ht=>by cases ht⟩
   |cons y ys=>
    obtain ⟨z,zs,rfl,g1,g2⟩:=h2;exact XD h g1 (fun e=>by subst e;simp [SV.sure,sureL] at hs)
 · have e1:ZP v=WK v:=by
    cases v with
    |clo f a b=>exact absurd ⟨f,a,b,rfl⟩ hc
    |_=>rfl
   have e2:M8 q=GS q:=by
    cases q with
    |clo f a b=>
     exfalso;cases v with
     |junk=>exact hj rfl
     |clo f a b=>exact hc ⟨f,a,b,rfl⟩
     |bp _ _ _|undef|nul|nilf|int _ _|bool _|str _|mp _|sl _ _|nil _ _=>cases (show PV.clo f a b=_ from hv)
     |agg _|tup _|rptr _ _|pre _ _ _ _|part _ _ _ _ _|pb _ _ _=>obtain ⟨_,hq,_⟩:=hv;cases hq
     |own _ _=>obtain ⟨_,_,hq,_⟩:=hv;cases hq
     |pa _ _ _ _ _=>obtain ⟨hq,_⟩:=hv;cases hq
    |_=>rfl
   rw [e1,e2];exact XD h hv hj
theorem mI {rk:List (Nat×List PT)}: ∀(live:List (Nat×Option Nat)) {st:qF} {p:St},Z5 st p->Z5 (kT rk live st) (jQ live p)
 | [],st,p,h=>h
 |(t,k)::live,st,p,h=>by
  cases k with
  |none=>simp only [kT,jQ];exact mI live h
  |some n=>
   simp only [kT,jQ];cases hn:Nat.ble 1000 n with
   |false=>simp only [cond_false,Bool.false_eq_true,if_false];exact mI live h
   |true=>
    simp only [cond_true,if_true];have hlk:=h.r.env.lk t;have hsu:=h.e.lk t;rcases aGH h hlk hsu with ⟨u,e1,e2⟩|⟨e1,e2⟩
    · rw [e1,e2]
      exact mI live (QY h u _ _)
    · rw [e1]
      cases hb:M8 (lk t p.env) with
      |none=>exact mI live h
      |some u=>
       show Z5 (kT rk live st) (jQ live (rF p u (n / 1000-1) (n%1000)));rw [LX (e2 u hb)];exact mI live h
theorem N9 {e:SE} {pe:tB} (hE:dB s e pe): ∀{live:List (Nat×Option Nat)},C9 e live=true->HP e live=live.flatMap fun p=>iH tD (lk p.1 pe)
 | [],_=>rfl
 |(t,k)::live,h=>by
  simp only [C9,Bool.and_eq_true] at h;simp only [HP,List.flatMap_cons,N9 hE h.2];rw [XB (fun _=>rfl) (hE.lk t) h.1]
theorem XE: ∀{s':List SB} {s:List SB} {ps:cL} (n:Nat),(ps.length=s.length/\ ∀(t:Nat) (b:SB),s[t]? =some b-> ∃q,ps[t]? =some q/\RB s' b q)->HQ s n=true->QP s n=(ps.take n).flatMap rD
 |s',[],ps,n,h,_=>by
  have:ps=[]:=List.length_eq_zero_iff.1 (by simpa using h.1)
  subst this;cases n<;>simp [QP]
 |s',b::s,ps,0,h,_=>by simp [QP]
 |s',b::s,ps,n+1,h,hk=>by
  cases ps with
  |nil=>have:=h.1;simp at this
  |cons q ps=>
   simp only [HQ,Bool.and_eq_true] at hk;obtain ⟨q',h1,h2⟩:=h.2 0 b rfl;simp at h1;subst h1;simp only [QP,List.take_succ_cons,List.flatMap_cons,LV h2 hk.1];rw [XE (s':=s') (ps:=ps) n ⟨by simpa using h.1,fun t x hx=>by simpa using h.2 (t+1) x (by simpa using hx)⟩ hk.2]
theorem S3 {s:List SB} {v:SV} {p:PV} (h:R s v p):R s (J9 s v) p:=by
 unfold J9;split
 · rename_i t ex
   rw [cC];split
   · rename_i r l hst
     obtain ⟨e,n,rfl,hat⟩:=h;obtain ⟨rfl,rfl⟩:=hat.inv hst;exact ⟨r.length,rfl,.inl ⟨r,l,hst,rfl⟩⟩
   · exact h
 · exact h
theorem S4 {s:List SB} (c:Nat): ∀{e:SE} {p:tB},dB s e p->dB s (ST s c e) p
 | [],_,h=>h
 |(t,v)::r,_,h=>by
  obtain ⟨q,qs,rfl,h1,h2⟩:=h;simp only [ST];cases hb:Nat.beq t c with
  |true=>exact ⟨q,qs,rfl,S3 h1,h2⟩
  |false=>exact ⟨q,qs,rfl,h1,S4 c h2⟩
theorem E0: ∀(live:List (Nat×Option Nat)) {st:qF} {p:St},A7 st p->A7 (C8 live st) p
 | [],st,p,h=>h
 |(t,k)::r,st,p,h=>by
  simp only [C8];cases hn:Nat.ble 1000000 t with
  |true=>exact E0 r ⟨S4 _ h.env,h.sto,h.fz,h.kn⟩
  |false=>exact E0 r h
theorem OA {rk:List (Nat×List PT)} {live:List (Nat×Option Nat)} {st st1:qF} {p:St} (h:A7 st p) (hn:HR rk live st=some st1): ∃p1,GT live p=some p1/\A7 st1 p1:=by
 unfold HR at hn;cases hc:(C9 st.env live&&HQ st.sto st.kn) with
 |false=>rw [hc] at hn;cases hn
 |true=>
  rw [hc] at hn;simp only [cond_true] at hn;simp only [Bool.and_eq_true] at hc;split at hn
  · cases hn
  · rename_i m hm
    split at hn
    · rename_i s1 e1 s2 h1 h2
      injection hn with hn;subst hn;have ht:QP st.sto st.kn++HP st.env live=(p.sto.take p.kn).flatMap rD++live.flatMap fun q=>iH tD (lk q.1 p.env):=by
       rw [N9 h.env hc.1,XE (s':=st.sto) st.kn ⟨h.sto.len,h.sto.at_⟩ hc.2,h.kn]
      rw [ht] at hm;have hm':=IE h.sto _ _ _ _ hm;have hr:IG m st.sto (s1++s2):=IG.of h1;obtain ⟨p1,a1,a2,a3⟩:=EX h.sto hr h1;have hlen:s1.length=m.length:=(yP h1).1;obtain ⟨pe1,q2,b1,b2,b3,b4⟩:=LW h.env hr h2 (fun j b hj=>by rw [<- hlen,List.getElem?_append_right (by omega)];simpa using hj)
      have hsto:cM (s1++s2) (p1++q2):=⟨by simp [a2,b3],fun t b ht=>by
       rcases Nat.lt_or_ge t s1.length with hl|hl
       · rw [List.getElem?_append_left hl] at ht
         obtain ⟨q,c1,c2⟩:=a3 t b ht;exact ⟨q,by rw [List.getElem?_append_left (by omega)];exact c1,c2⟩
       · rw [List.getElem?_append_right hl] at ht
         obtain ⟨q,c1,c2⟩:=b4 _ b ht;exact ⟨q,by rw [List.getElem?_append_right (by omega),a2];exact c1,c2⟩⟩
      have hs:aGj (s1++s2):=fun t cs ht=>by
       rcases Nat.lt_or_ge t s1.length with hl|hl
       · rw [List.getElem?_append_left hl] at ht
         obtain ⟨b,c,d1,d2,d3⟩:=(yP h1).2 t (m[t]'(by omega)) (List.getElem?_eq_getElem (by omega))
         rw [ht] at d3;injection d3 with d3;subst d3;cases b with
         |box x=>
          simp only [WJ] at d2;split at d2
          · rename_i l hl';injection d2 with d2;injection d2 with d2;subst d2;exact renVL_sure hl'
          · cases d2
         |arr _ _=>injection d2 with d2;cases d2
         |set _=>injection d2 with d2;cases d2
         |dead=>injection d2 with d2;cases d2
       · rw [List.getElem?_append_right hl] at ht
         obtain ⟨r,hr'⟩:=EY h2 _ _ ht;cases hr'
      have hR:Z5 {env:=e1,sto:=s1++s2,fz:=xZ st.fz 0 m,kn:=st.kn} {env:=pe1,sto:=p1++q2,fz:=xZ p.fz 0 m,kn:=p.kn}:=
       ⟨⟨b2,hsto,by rw [h.fz],h.kn⟩,hs,CB h2⟩
      refine ⟨_,?_,E0 live (mI live hR).r⟩;unfold GT;rw [h.kn] at hm';rw [h.kn];rw [hm'];dsimp only;rw [a1,b1]
    · cases hn
theorem S5 {rk:List (Nat×List PT)} {live:List (Nat×Option Nat)} {st st1:qF} {p:St} (h:A7 st p) (hn:HS rk live st=some st1): ∃p1,F4 live p=some p1/\A7 st1 p1:=by
 unfold HS at hn;cases h1:HR rk live st with
 |none=>rw [h1] at hn;cases hn
 |some s=>
  rw [h1] at hn;dsimp only at hn;obtain ⟨p1,h2,h3⟩:=OA h h1;unfold F4;rw [h2];dsimp only;cases ha:(live.any fun p=>p.2.isSome) with
  |true=>
   rw [ha] at hn;simp only [cond_true] at hn;rw [if_pos rfl];exact OA h3 hn
  |false=>
   rw [ha] at hn;injection hn with hn;subst hn;exact ⟨p1,by rw [if_neg (by simp)],h3⟩
mutual
theorem GH: ∀{a b:SV} (q:List xW),xR a b=true->tF a (EU b++q)=(b,q)
 | .undef,.undef,q,_=>rfl
 | .nul,.nul,q,_=>rfl
 | .nilf,.nilf,q,_=>rfl
 | .int k _,.int l n,q,h=>by rw [fN.1 h];rfl
 | .bool _,.bool _,q,_=>rfl
 | .agg a,.agg b,q,h=>by simp only [tF,EU,put_atsL q h]
 | .tup a,.tup b,q,h=>by simp only [tF,EU,put_atsL q h]
 | .sl r _,.sl r' l,q,h=>rfl
 | .nil e c,.nil f d,q,h=>by
  simp only [xR,Bool.and_eq_true,beq_iff_eq] at h;rw [Nat.eq_of_beq_eq_true h.1,h.2];rfl
 | .own t x,.own u y,q,h=>by
  simp only [xR,Bool.and_eq_true,beq_iff_eq] at h;rw [Nat.eq_of_beq_eq_true h.1,h.2];rfl
 | .pre t _ _ x,.pre u _ _ y,q,h=>by
  simp only [xR,Bool.and_eq_true,beq_iff_eq] at h;rw [Nat.eq_of_beq_eq_true h.1,h.2];rfl
 | .part t _ _ _ x,.part u _ _ _ y,q,h=>by
  simp only [xR,Bool.and_eq_true,beq_iff_eq] at h;rw [Nat.eq_of_beq_eq_true h.1,h.2];rfl
 | .pb t _ o,.pb u _ p,q,h=>by
  simp only [xR,Bool.and_eq_true] at h;rw [Nat.eq_of_beq_eq_true h.1,Nat.eq_of_beq_eq_true h.2];rfl
 | .bp t n o,.bp u m p,q,h=>by
  simp only [xR,Bool.and_eq_true] at h;rw [Nat.eq_of_beq_eq_true h.1.1,Nat.eq_of_beq_eq_true h.1.2,Nat.eq_of_beq_eq_true h.2];rfl
 | .rptr a o,.rptr b p,q,h=>by
  simp only [xR,Bool.and_eq_true] at h;simp only [tF,EU,put_atsL q h.1,Nat.eq_of_beq_eq_true h.2]
 | .clo f a b,.clo g c d,q,h=>by
  simp only [xR,Bool.and_eq_true] at h;simp only [tF,EU,List.append_assoc,put_atsL _ h.1.2,put_atsL q h.2,Nat.eq_of_beq_eq_true h.1.1]
 | .mp t,.mp u,q,h=>by rw [Nat.eq_of_beq_eq_true h];rfl
theorem put_atsL: ∀{a b:List SV} (q:List xW),likeL a b=true->putL a (atsL b++q)=(b,q)
 | [],[],q,_=>rfl
 |x::xs,y::ys,q,h=>by
  simp only [likeL,Bool.and_eq_true] at h;simp only [putL,atsL,List.append_assoc,GH _ h.1,put_atsL q h.2]
 | [],_::_,_,h=>by cases h
 |_::_,[],_,h=>by cases h
end
theorem XF: ∀{a b:SB} (q:List xW),aGe a b=true->QQ a (WL b++q)=(b,q)
 | .arr r _,.arr r' l,q,h=>rfl
 | .box a,.box b,q,h=>by simp only [QQ,WL,put_atsL q h]
 | .set _,.set _,q,_=>rfl
 | .dead,.dead,q,_=>rfl
 | .arr _ _,.box _,_,h| .arr _ _,.set _,_,h| .arr _ _,.dead,_,h| .box _,.arr _ _,_,h| .box _,.set _,_,h| .box _,.dead,_,h| .set _,.arr _ _,_,h| .set _,.box _,_,h| .set _,.dead,_,h| .dead,.arr _ _,_,h| .dead,.box _,_,h| .dead,.set _,_,h=>by cases h
theorem DL: ∀{a b:List SB} (q:List xW),HT a b=true->B5 a (LQ b++q)=(b,q)
 | [],[],q,_=>rfl
 |x::xs,y::ys,q,h=>by
  simp only [HT,Bool.and_eq_true] at h;simp only [B5,LQ,List.append_assoc,XF _ h.1,DL q h.2]
 | [],_::_,_,h=>by cases h
 |_::_,[],_,h=>by cases h
theorem OB: ∀{a b:SE} (q:List xW),SU a b=true->N0 a (U3 b++q)=(b,q)
 | [],[],q,_=>rfl
 |(t,x)::xs,(u,y)::ys,q,h=>by
  simp only [SU,Bool.and_eq_true] at h;simp only [N0,U3,List.append_assoc,GH _ h.1.2,OB q h.2,Nat.eq_of_beq_eq_true h.1.1]
 | [],_::_,_,h=>by cases h
 |_::_,[],_,h=>by cases h
theorem OC: ∀{a b:List Nat},SW a b=true->a=b
 | [],[],_=>rfl
 |x::xs,y::ys,h=>by
  simp only [SW,Bool.and_eq_true] at h;rw [Nat.eq_of_beq_eq_true h.1,OC h.2]
 | [],_::_,h=>by cases h
 |_::_,[],h=>by cases h
theorem VB {a b:qF} (h:HU a b=true):A4 a (xQ b)=b:=by
 obtain ⟨e1,s1,z1,k1⟩:=a;obtain ⟨e2,s2,z2,k2⟩:=b;simp only [HU,Bool.and_eq_true] at h;obtain ⟨⟨⟨h1,h2⟩,h3⟩,h4⟩:=h;have hs:=DL [] h2;rw [List.append_nil] at hs;simp only [A4,xQ,OB _ h1,hs,OC h3,Nat.eq_of_beq_eq_true h4]
theorem AK.of_at: ∀{a:AK} {x:xW} {y:a.T},a.of x=some y->a.at y=x
 | .i,.i _,y,h=>by injection h with h;subst h;rfl
 | .b,.b _,y,h=>by injection h with h;subst h;rfl
 | .n,.n _,y,h=>by injection h with h;subst h;rfl
 | .l r,.l q x,y,h=>by obtain ⟨rfl,rfl⟩:=HW h;rfl
 | .s,.s _,y,h=>by injection h with h;subst h;rfl
 | .i,.b _,_,h| .i,.n _,_,h| .i,.l _ _,_,h| .i,.s _,_,h| .b,.i _,_,h| .b,.n _,_,h| .b,.l _ _,_,h| .b,.s _,_,h| .n,.i _,_,h| .n,.b _,_,h| .n,.l _ _,_,h| .n,.s _,_,h
 | .l _,.i _,_,h| .l _,.b _,_,h| .l _,.n _,_,h| .l _,.s _,_,h| .s,.i _,_,h| .s,.b _,_,h| .s,.n _,_,h| .s,.l _ _,_,h=>by cases h
theorem sC: ∀{ks:List AK} {l:List xW} {y:jB ks},qW ks l=some y->lL ks y=l
 | [],[],y,_=>rfl
 | [a],[x],y,h=>by
  have:=AK.of_at (a:=a) h
  simp only [lL,this]
 |a::q::r,x::xs,y,h=>by
  simp only [qW] at h;split at h
  · rename_i u v h1 h2
    injection h with h;subst h;simp only [lL,AK.of_at h1,sC h2]
  · cases h
 | [],_::_,_,h=>by cases h
 | [_],[],_,h=>by cases h
 | [_],_::_::_,_,h=>by cases h
 |_::_::_,[],_,h=>by cases h
end
end Go.Vm
/- What is known of functions, and what a call of one comes to. -/
namespace Go.Vm
mutual
def IH:Nat->PV->Option (PV×cL)
 |_,.int k n=>some (.int k n,[])
 |_,.bool b=>some (.bool b,[])
 |nx,.agg cs=>match ownPL nx cs with|some r=>some (.agg r.1,r.2)|none=>none
 |nx,.tup cs=>match ownPL nx cs with|some r=>some (.tup r.1,r.2)|none=>none
 |nx,.sl e false rows=>some (.own nx e 0 rows.length rows.length false,[.arr e rows])
 |_,_=>none
def ownPL:Nat->List PV->Option (List PV×cL)
 |_,[]=>some ([],[])
 |nx,x::xs=>match IH nx x with
  |some a=>match ownPL (nx+a.2.length) xs with
   |some b=>some (a.1::b.1,a.2++b.2)
   |none=>none
  |none=>none
end
def wD (s:List SB) (n:Nat) (l:List SB):Prop:= ∀(j:Nat) (b:SB),l[j]? =some b->s[n+j]? =some b
theorem wD.left {s:List SB} {n:Nat} {l m:List SB} (h:wD s n (l++m)):wD s n l:=fun j b hj=>h j b (by
 rw [List.getElem?_append_left (List.getElem?_eq_some_iff.1 hj).1];exact hj)
theorem wD.right {s:List SB} {n:Nat} {l m:List SB} (h:wD s n (l++m)):wD s (n+l.length) m:=fun j b hj=>by
 have:=h (l.length+j) b (by rw [List.getElem?_append_right (by omega)];simpa using hj)
 rwa [Nat.add_assoc]
def QZ (s:List SB) (l:List SB) (q:cL):Prop:=q.length=l.length/\ ∀(j:Nat) (b:SB),l[j]? =some b-> ∃x,q[j]? =some x/\RB s b x
theorem QZ.append {s l m:List SB} {q r:cL} (h:QZ s l q) (k:QZ s m r):QZ s (l++m) (q++r):=by
 refine ⟨by simp [h.1,k.1],fun j b hj=>?_⟩
 rcases Nat.lt_or_ge j l.length with hl|hl
 · rw [List.getElem?_append_left hl] at hj
   obtain ⟨x,h1,h2⟩:=h.2 j b hj;exact ⟨x,by rw [List.getElem?_append_left (by rw [h.1];exact hl)];exact h1,h2⟩
 · rw [List.getElem?_append_right hl] at hj
   obtain ⟨x,h1,h2⟩:=k.2 _ b hj;exact ⟨x,by rw [List.getElem?_append_right (by rw [h.1];exact hl),h.1];exact h1,h2⟩
theorem QZ.nil {s:List SB}:QZ s [] []:=⟨rfl,fun j b h=>by simp at h⟩
theorem QZ.one {s:List SB} {b:SB} {x:jZ} (h:RB s b x):QZ s [b] [x]:=⟨rfl,fun j c hc=>by
 cases j with
 |zero=>simp at hc;subst hc;exact ⟨x,rfl,h⟩
 |succ j=>simp at hc⟩
mutual
theorem S6: ∀{v:SV} {nx:Nat} {p0 p:PV} {q:cL},sA v=some p0->IH nx p0=some (p,q)-> ∀{s:List SB},wD s nx (yM nx v).2->R s (yM nx v).1 p/\QZ s (yM nx v).2 q
 | .int k n,nx,p0,p,q,h0,h,s,_=>by injection h0 with h0;subst h0;injection h with h;injection h with h1 h2;subst h1 h2;exact ⟨rfl,QZ.nil⟩
 | .bool b,nx,p0,p,q,h0,h,s,_=>by injection h0 with h0;subst h0;injection h with h;injection h with h1 h2;subst h1 h2;exact ⟨rfl,QZ.nil⟩
 | .agg cs,nx,p0,p,q,h0,h,s,hb=>by
  simp only [sA] at h0;split at h0
  · rename_i l hl
    injection h0 with h0;subst h0;simp only [IH] at h;split at h
    · rename_i r hr
      injection h with h;injection h with h1 h2;subst h1 h2;obtain ⟨h3,h4⟩:=ownOfL_R (p:=r.1) (q:=r.2) hl hr hb;exact ⟨⟨r.1,rfl,h3⟩,h4⟩
    · cases h
  · cases h0
 | .tup cs,nx,p0,p,q,h0,h,s,hb=>by
  simp only [sA] at h0;split at h0
  · rename_i l hl
    injection h0 with h0;subst h0;simp only [IH] at h;split at h
    · rename_i r hr
      injection h with h;injection h with h1 h2;subst h1 h2;obtain ⟨h3,h4⟩:=ownOfL_R (p:=r.1) (q:=r.2) hl hr hb;exact ⟨⟨r.1,rfl,h3⟩,h4⟩
    · cases h
  · cases h0
 | .sl r l,nx,p0,p,q,h0,h,s,hb=>by
  injection h0 with h0;subst h0;injection h with h;injection h with h1 h2;subst h1 h2;refine ⟨⟨r.length,l.length,by simp,.inl ⟨r,l,hb 0 _ rfl,rfl,rfl⟩⟩,QZ.one rfl⟩
 | .nil e c,nx,p0,p,q,h0,h,s,hb=>by
  injection h0 with h0;subst h0;cases c with
  |true=>simp [IH] at h
  |false=>
   injection h with h;injection h with h1 h2;subst h1 h2;exact ⟨⟨e,0,rfl,.inl ⟨_,[],hb 0 _ rfl,by simp,rfl⟩⟩,QZ.one (by show _=_;simp)⟩
 | .str _,nx,p0,p,q,h0,h,s,_=>by injection h0 with h0;subst h0;cases h
 | .nilf,nx,p0,p,q,h0,h,s,_=>by injection h0 with h0;subst h0;cases h
 | .rptr cs o,nx,p0,p,q,h0,h,s,_=>by
  simp only [sA] at h0;split at h0
  · injection h0 with h0;subst h0;cases h
  · cases h0
 | .clo f a b,nx,p0,p,q,h0,h,s,_=>by
  simp only [sA] at h0;split at h0
  · injection h0 with h0;subst h0;cases h
  · cases h0
 | .junk,_,_,_,_,h0,_,_,_| .undef,_,_,_,_,h0,_,_,_| .nul,_,_,_,_,h0,_,_,_| .own _ _,_,_,_,_,h0,_,_,_| .pre _ _ _ _,_,_,_,_,h0,_,_,_| .part _ _ _ _ _,_,_,_,_,h0,_,_,_
 | .pa _ _ _ _ _,_,_,_,_,h0,_,_,_| .pb _ _ _,_,_,_,_,h0,_,_,_| .bp _ _ _,_,_,_,_,h0,_,_,_| .mp _,_,_,_,_,h0,_,_,_=>by cases h0
theorem ownOfL_R: ∀{v:List SV} {nx:Nat} {p0 p:List PV} {q:cL},pvL v=some p0->ownPL nx p0=some (p,q)-> ∀{s:List SB},wD s nx (ownOfL nx v).2->RL s (ownOfL nx v).1 p/\QZ s (ownOfL nx v).2 q
 | [],nx,p0,p,q,h0,h,s,_=>by injection h0 with h0;subst h0;injection h with h;injection h with h1 h2;subst h1 h2;exact ⟨rfl,QZ.nil⟩
 |x::xs,nx,p0,p,q,h0,h,s,hb=>by
  obtain ⟨a,as,rfl,h1,h2⟩:=dJ.1 h0;simp only [ownPL] at h;split at h
  · rename_i ra hra
    split at h
    · rename_i rb hrb
      injection h with h;injection h with e1 e2;subst e1 e2;simp only [ownOfL] at hb ⊢;obtain ⟨k1,k2⟩:=S6 (p:=ra.1) (q:=ra.2) h1 hra hb.left;rw [k2.1] at hrb;obtain ⟨k3,k4⟩:=ownOfL_R (p:=rb.1) (q:=rb.2) h2 hrb hb.right;exact ⟨RL.cons k1 k3,k2.append k4⟩
    · cases h
  · cases h
end
mutual
theorem XG {s:List SB} {ps:cL} {z:List Nat} (hS:cM s ps): ∀{v v':SV} {p:PV} {seen seen':List Nat} (nx:Nat),R s v p->U2 s z seen v=some (v',seen')-> ∃p0 p' q,sA v'=some p0/\IH nx p0=some (p',q)/\AV ps z nx seen p=some (p',q,seen')
 | .int k n,v',p,seen,seen',nx,h,hx=>by injection hx with hx;injection hx with h1 h2;subst h1 h2;rw [show p=_ from h];exact ⟨_,_,_,rfl,rfl,rfl⟩
 | .bool k,v',p,seen,seen',nx,h,hx=>by injection hx with hx;injection hx with h1 h2;subst h1 h2;rw [show p=_ from h];exact ⟨_,_,_,rfl,rfl,rfl⟩
 | .agg cs,v',p,seen,seen',nx,h,hx=>by
  obtain ⟨q,rfl,h⟩:=h;simp only [U2] at hx;split at hx
  · rename_i r hr
    injection hx with hx;injection hx with h1 h2;subst h1 h2;obtain ⟨p0,p',q',h3,h4,h5⟩:=imOVL_R hS (v':=r.1) (seen':=r.2) nx h hr;exact ⟨.agg p0,.agg p',q',by simp only [sA,h3],by simp only [IH,h4],by simp only [AV,h5];rfl⟩
  · cases hx
 | .tup cs,v',p,seen,seen',nx,h,hx=>by
  obtain ⟨q,rfl,h⟩:=h;simp only [U2] at hx;split at hx
  · rename_i r hr
    injection hx with hx;injection hx with h1 h2;subst h1 h2;obtain ⟨p0,p',q',h3,h4,h5⟩:=imOVL_R hS (v':=r.1) (seen':=r.2) nx h hr;exact ⟨.tup p0,.tup p',q',by simp only [sA,h3],by simp only [IH,h4],by simp only [AV,h5];rfl⟩
  · cases hx
 | .nil e c,v',p,seen,seen',nx,h,hx=>by
  cases c with
  |false=>cases hx
  |true=>injection hx with hx;injection hx with h1 h2;subst h1 h2;rw [show p=_ from h];exact ⟨_,_,_,rfl,rfl,rfl⟩
 | .own t ex,v',p,seen,seen',nx,h,hx=>by
  obtain ⟨e,n,rfl,hat⟩:=h;simp only [U2,cC] at hx;split at hx
  · rename_i r l hst
    obtain ⟨rfl,rfl⟩:=hat.inv hst;cases hc:(has seen t||has z t) with
    |true=>rw [hc] at hx;cases hx
    |false=>
     rw [hc] at hx;injection hx with hx;injection hx with h1 h2;subst h1 h2;refine ⟨_,_,_,rfl,rfl,?_⟩;simp only [AV,hS.arr hst,hc];simp
  · cases hx
 | .junk,_,_,_,_,_,_,hx| .undef,_,_,_,_,_,_,hx| .nul,_,_,_,_,_,_,hx| .nilf,_,_,_,_,_,_,hx| .str _,_,_,_,_,_,_,hx| .sl _ _,_,_,_,_,_,_,hx| .pre _ _ _ _,_,_,_,_,_,_,hx| .part _ _ _ _ _,_,_,_,_,_,_,hx
 | .pa _ _ _ _ _,_,_,_,_,_,_,hx| .pb _ _ _,_,_,_,_,_,_,hx| .bp _ _ _,_,_,_,_,_,_,hx| .rptr _ _,_,_,_,_,_,_,hx| .clo _ _ _,_,_,_,_,_,_,hx| .mp _,_,_,_,_,_,_,hx=>by cases hx
theorem imOVL_R {s:List SB} {ps:cL} {z:List Nat} (hS:cM s ps): ∀{v v':List SV} {p:List PV} {seen seen':List Nat} (nx:Nat),RL s v p->imOVL s z seen v=some (v',seen')-> ∃p0 p' q,pvL v'=some p0/\ownPL nx p0=some (p',q)/\imOL ps z nx seen p=some (p',q,seen')
 | [],v',p,seen,seen',nx,h,hx=>by injection hx with hx;injection hx with h1 h2;subst h1 h2;rw [show p=_ from h];exact ⟨_,_,_,rfl,rfl,rfl⟩
 |x::xs,v',p,seen,seen',nx,h,hx=>by
  obtain ⟨a,as,rfl,h1,h2⟩:=h.cons_inv;simp only [imOVL] at hx;split at hx
  · rename_i r hr
    split at hx
    · rename_i r2 hr2
      injection hx with hx;injection hx with e1 e2;subst e1 e2;obtain ⟨p0,p',q,k1,k2,k3⟩:=XG hS (v':=r.1) (seen':=r.2) nx h1 hr;obtain ⟨p02,p'2,q2,k4,k5,k6⟩:=imOVL_R hS (v':=r2.1) (seen':=r2.2) (nx+q.length) h2 hr2;exact ⟨p0::p02,p'::p'2,q++q2,dJ.2 ⟨_,_,rfl,k1,k4⟩,by simp only [ownPL,k2,k5],by simp only [imOL,k3,k6]⟩
    · cases hx
  · cases hx
end
mutual
theorem OD {s:List SB}: ∀{v:SV} {p:PV},R s v p->B4 v=true->p.noref=true
 | .int _ _,p,h,_| .bool _,p,h,_| .str _,p,h,_=>by rw [show p=_ from h];rfl
 | .agg cs,p,h,hn=>by obtain ⟨q,rfl,h⟩:=h;exact norefSL_R h hn
 | .tup cs,p,h,hn=>by obtain ⟨q,rfl,h⟩:=h;exact norefSL_R h hn
 | .junk,_,_,h| .undef,_,_,h| .nul,_,_,h| .nilf,_,_,h| .sl _ _,_,_,h| .nil _ _,_,_,h| .own _ _,_,_,h| .pre _ _ _ _,_,_,h| .part _ _ _ _ _,_,_,h| .pa _ _ _ _ _,_,_,h| .pb _ _ _,_,_,h| .bp _ _ _,_,_,h| .rptr _ _,_,_,h| .clo _ _ _,_,_,h| .mp _,_,_,h=>by cases h
theorem norefSL_R {s:List SB}: ∀{v:List SV} {p:List PV},RL s v p->norefSL v=true->norefL p=true
 | [],p,h,_=>by rw [show p=_ from h];rfl
 |x::xs,p,h,hn=>by
  obtain ⟨a,as,rfl,h1,h2⟩:=h.cons_inv;simp only [norefSL,Bool.and_eq_true] at hn;simp only [norefL,OD h1 hn.1,norefSL_R h2 hn.2,Bool.and_self]
end
mutual
theorem KI {s:List SB} {u:SV}: ∀{v:SV} {p:PV},R s v p->B4 v=false->WI s v=some u->p.noref=false
 | .int _ _,p,h,hn,_| .bool _,p,h,hn,_| .str _,p,h,hn,_=>by cases hn
 | .agg cs,p,h,hn,hi=>by
  obtain ⟨q,rfl,h⟩:=h;simp only [WI] at hi;split at hi
  · rename_i l hl;exact yesrefSL_R h hn hl
  · cases hi
 | .tup cs,p,h,hn,hi=>by
  obtain ⟨q,rfl,h⟩:=h;simp only [WI] at hi;split at hi
  · rename_i l hl;exact yesrefSL_R h hn hl
  · cases hi
 | .sl _ _,p,h,_,_=>by rw [show p=_ from h];rfl
 | .nil _ _,p,h,_,_=>by rw [show p=_ from h];rfl
 | .own _ _,p,h,_,_=>by obtain ⟨e,n,rfl,_⟩:=h;rfl
 | .pre _ _ _ _,p,h,_,_=>by obtain ⟨e,rfl,_⟩:=h;rfl
 | .part _ _ _ _ _,p,h,_,_=>by obtain ⟨e,rfl,_⟩:=h;rfl
 | .junk,_,_,_,h| .undef,_,_,_,h| .nul,_,_,_,h| .nilf,_,_,_,h| .pa _ _ _ _ _,_,_,_,h| .pb _ _ _,_,_,_,h| .bp _ _ _,_,_,_,h| .rptr _ _,_,_,_,h| .clo _ _ _,_,_,_,h| .mp _,_,_,_,h=>by cases h
theorem yesrefSL_R {s:List SB}: ∀{v u:List SV} {p:List PV},RL s v p->norefSL v=false->imVL s v=some u->norefL p=false
 | [],u,p,h,hn,_=>by cases hn
 |x::xs,u,p,h,hn,hi=>by
  obtain ⟨a,as,rfl,h1,h2⟩:=h.cons_inv;simp only [imVL] at hi;split at hi
  · rename_i y ys h3 h4
    simp only [norefSL] at hn;simp only [norefL];cases hx:B4 x with
    |false=>rw [KI h1 hx h3];rfl
    |true=>rw [hx] at hn;rw [yesrefSL_R h2 (by simpa using hn) h4];simp
  · cases hi
end
mutual
theorem aGk {s:List SB} {ps:cL} (hS:cM s ps): ∀{v u:SV} {p:PV},R s v p->WI s v=some u-> ∃q,zM ps p=some q/\sA u=some q
 | .int k n,u,p,h,hx=>by injection hx with hx;subst hx;rw [show p=_ from h];exact ⟨_,rfl,rfl⟩
 | .bool b,u,p,h,hx=>by injection hx with hx;subst hx;rw [show p=_ from h];exact ⟨_,rfl,rfl⟩
 | .str x,u,p,h,hx=>by injection hx with hx;subst hx;rw [show p=_ from h];exact ⟨_,rfl,rfl⟩
 | .agg cs,u,p,h,hx=>by
  obtain ⟨q,rfl,h⟩:=h;simp only [WI] at hx;split at hx
  · rename_i l hl
    injection hx with hx;subst hx;obtain ⟨q',h1,h2⟩:=imVL_R hS h hl;exact ⟨.agg q',by simp only [zM,h1];rfl,by simp only [sA,h2]⟩
  · cases hx
 | .tup cs,u,p,h,hx=>by
  obtain ⟨q,rfl,h⟩:=h;simp only [WI] at hx;split at hx
  · rename_i l hl
    injection hx with hx;subst hx;obtain ⟨q',h1,h2⟩:=imVL_R hS h hl;exact ⟨.tup q',by simp only [zM,h1];rfl,by simp only [sA,h2]⟩
  · cases hx
 | .sl r l,u,p,h,hx=>by injection hx with hx;subst hx;rw [show p=_ from h];exact ⟨_,rfl,rfl⟩
 | .nil e c,u,p,h,hx=>by injection hx with hx;subst hx;rw [show p=_ from h];exact ⟨_,rfl,rfl⟩
 | .own t ex,u,p,h,hx=>by
  simp only [WI,cC] at hx;split at hx
  · rename_i r l hst
    injection hx with hx;subst hx;obtain ⟨e,n,rfl,hat⟩:=h;obtain ⟨rfl,rfl⟩:=hat.inv hst;refine ⟨.sl r.length false (l.map (RT.pv r)),?_,rfl⟩;simp only [zM,hS.arr hst,List.drop_zero];rw [List.take_of_length_le (by simp)]
  · cases hx
 | .pre t len cap ex,u,p,h,hx=>by
  simp only [WI,cC] at hx;split at hx
  · rename_i r l hst
    injection hx with hx;subst hx;obtain ⟨e,rfl,hat⟩:=h
    have:=hat.inv hst
    subst this;refine ⟨.sl r.length false ((l.take len).map (RT.pv r)),?_,rfl⟩;simp only [zM,hS.arr hst,List.drop_zero,List.map_take]
  · cases hx
 | .part t off len cap ex,u,p,h,hx=>by
  simp only [WI,cC] at hx;split at hx
  · rename_i r l hst
    injection hx with hx;subst hx;obtain ⟨e,rfl,hat⟩:=h
    have:=hat.inv hst
    subst this;refine ⟨.sl r.length false (((l.drop off).take len).map (RT.pv r)),?_,rfl⟩;simp only [zM,hS.arr hst,List.map_take,List.map_drop]
  · cases hx
 | .junk,_,_,_,hx| .undef,_,_,_,hx| .nul,_,_,_,hx| .nilf,_,_,_,hx| .pa _ _ _ _ _,_,_,_,hx| .pb _ _ _,_,_,_,hx| .bp _ _ _,_,_,_,hx| .rptr _ _,_,_,_,hx| .clo _ _ _,_,_,_,hx| .mp _,_,_,_,hx=>by cases hx
theorem imVL_R {s:List SB} {ps:cL} (hS:cM s ps): ∀{v u:List SV} {p:List PV},RL s v p->imVL s v=some u-> ∃q,imFL ps p=some q/\pvL u=some q
 | [],u,p,h,hx=>by injection hx with hx;subst hx;rw [show p=_ from h];exact ⟨_,rfl,rfl⟩
 |x::xs,u,p,h,hx=>by
  obtain ⟨a,as,rfl,h1,h2⟩:=h.cons_inv;simp only [imVL] at hx;split at hx
  · rename_i y ys h3 h4
    injection hx with hx;subst hx;obtain ⟨q,h5,h6⟩:=aGk hS h1 h3;obtain ⟨qs,h7,h8⟩:=imVL_R hS h2 h4;exact ⟨q::qs,by simp only [imFL,h5,h7],dJ.2 ⟨_,_,rfl,h6,h8⟩⟩
  · cases hx
end
mutual
theorem XH {s:List SB}: ∀{v:SV} {p:PV},sA v=some p->R s v p
 | .int _ _,p,h| .bool _,p,h| .str _,p,h| .nilf,p,h| .sl _ _,p,h| .nil _ _,p,h=>by injection h with h;exact h.symm
 | .agg cs,p,h=>by
  simp only [sA] at h;split at h
  · rename_i l hl;injection h with h;exact ⟨l,h.symm,pvL_R hl⟩
  · cases h
 | .tup cs,p,h=>by
  simp only [sA] at h;split at h
  · rename_i l hl;injection h with h;exact ⟨l,h.symm,pvL_R hl⟩
  · cases h
 | .rptr cs o,p,h=>by
  simp only [sA] at h;split at h
  · rename_i l hl;injection h with h;exact ⟨l,h.symm,pvL_R hl⟩
  · cases h
 | .clo f a b,p,h=>by
  simp only [sA] at h;split at h
  · rename_i x y h1 h2;injection h with h;exact ⟨x,y,h.symm,pvL_R h1,pvL_R h2⟩
  · cases h
 | .junk,_,h| .undef,_,h| .nul,_,h| .own _ _,_,h| .pre _ _ _ _,_,h| .part _ _ _ _ _,_,h| .pa _ _ _ _ _,_,h| .pb _ _ _,_,h| .bp _ _ _,_,h| .mp _,_,h=>by cases h
theorem pvL_R {s:List SB}: ∀{v:List SV} {p:List PV},pvL v=some p->RL s v p
 | [],p,h=>by injection h with h;exact h.symm
 |x::xs,p,h=>by
  obtain ⟨a,as,rfl,h1,h2⟩:=dJ.1 h;exact RL.cons (XH h1) (pvL_R h2)
end
def aGl (kd:Kd) (n:Nat) (tk:List Nat) (v:SV) (r:oD):Prop:=
 match kd with
 | .pure=> ∃p,sA v=some p/\r={v:=p,rd:=tk}
 | .frz=> ∃p,sA v=some p/\r={v:=p,rd:=tk,fr:=tk}
 | .own=> ∃p0 p q,sA v=some p0/\IH n p0=some (p,q)/\r={v:=p,news:=q,rd:=tk}
def aF (F : lX) (f : FuncId) (c : bF) : Prop :=
  ∀ (a : c.α) (b : c.β) (as args : List PV) (sto : cL) (fz : List Nat), c.fn a = some b -> pvL (c.args.enc a) = some args -> exL sto (xX sto dN) as = some args ->
    ∃ n r, callPure F (run F n) c.ow f as sto fz = some r /\ aGl c.kd sto.length (toksL (cU sto dN) as) (c.res.enc b) r
def dA.va (c:dA) (a:jB c.ka):List SV:=(putL c.ta (lL c.ka a)).1
def dA.sa (c:dA) (a:jB c.ka):List SB:=(B5 c.tb (putL c.ta (lL c.ka a)).2).1
def dA.vb (c:dA) (b:jB c.ko):SV:=(tF c.tv (lL c.ko b)).1
def dA.sb (c:dA) (b:jB c.ko):List SB:=(B5 c.to (tF c.tv (lL c.ko b)).2).1
def XI:SB->SB->Prop
 | .arr r l,.arr q m=>r=q/\m.length=l.length
 | .box _,.box _=>True
 | .set _,.set _=>True
 | .dead,.dead=>True
 |_,_=>False
def jS (F : lX) (f : FuncId) (c : dA) : Prop :=
  ∀ (a : jB c.ka) (b : jB c.ko) (pa : List PV) (ps : cL), c.fn a = some b -> RL (c.sa a) (c.va a) pa -> cM (c.sa a) ps ->
    ∃ n v s, run F n (.func f pa ps []) = some (.func v s []) /\ gE (c.sa a).length v s = true /\ R (c.sb b) (c.vb b) v /\ cM (c.sb b) (s.take (c.sa a).length) /\ (c.sb b).length = (c.sa a).length /\
      ∀ (t : Nat) (x y : SB), (c.sa a)[t]? = some x -> (c.sb b)[t]? = some y -> XI x y
def CC (F:lX):List (Nat×bF)->Prop
 | []=>True
 |(f,c)::r=>aF F f c/\CC F r
def KJ (F:lX):List (Nat×dA)->Prop
 | []=>True
 |(f,c)::r=>jS F f c/\KJ F r
def DM (F:lX):List (Nat×aI)->Prop
 | []=>True
 |(f,x)::r=>F f=some (.code x)/\DM F r
structure jY (F:lX) (cx:VU):Prop where
 con: ∀f c,c∈cx.con f->aF F f c
 fpc: ∀f c,c∈cx.fpc f->jS F f c
 code: ∀f x,cx.code f=some x->F f=some (.code x)
theorem CC.mem {F:lX}: ∀{l:List (Nat×bF)},CC F l-> ∀f c,c∈N4 l f->aF F f c
 | [],_,f,c,h=>by cases h
 |(g,d)::r,hl,f,c,h=>by
  simp only [N4] at h;cases hb:Nat.beq g f with
  |true=>
   rw [hb] at h
   have:=Nat.eq_of_beq_eq_true hb
   subst this;simp only [cond_true] at h;rcases h with _|⟨_,h⟩
   · exact hl.1
   · exact CC.mem hl.2 _ c h
  |false=>rw [hb] at h;exact CC.mem hl.2 f c h
theorem KJ.mem {F:lX}: ∀{l:List (Nat×dA)},KJ F l-> ∀f c,c∈N5 l f->jS F f c
 | [],_,f,c,h=>by cases h
 |(g,d)::r,hl,f,c,h=>by
  simp only [N5] at h;cases hb:Nat.beq g f with
  |true=>
   rw [hb] at h
   have:=Nat.eq_of_beq_eq_true hb
   subst this;simp only [cond_true] at h;rcases h with _|⟨_,h⟩
   · exact hl.1
   · exact KJ.mem hl.2 _ c h
  |false=>rw [hb] at h;exact KJ.mem hl.2 f c h
theorem DM.mem {F:lX}: ∀{l:List (Nat×aI)},DM F l-> ∀f x,LS l f=some x->F f=some (.code x)
 | [],_,f,c,h=>by cases h
 |(g,d)::r,hl,f,c,h=>by
  simp only [LS] at h;cases hb:Nat.beq g f with
  |true=>
   rw [hb] at h
   have:=Nat.eq_of_beq_eq_true hb
   subst this;injection h with h;subst h;exact hl.1
  |false=>rw [hb] at h;exact DM.mem hl.2 f c h
theorem jY.make {F:lX} {lp:Option Nat} {c:List (Nat×bF)} {p:List (Nat×dA)} {x:List (Nat×aI)} {rk:List (Nat×List PT)} (h1:CC F c) (h2:KJ F p) (h3:DM F x):jY F (mV lp c p x rk):=
 ⟨h1.mem,h2.mem,h3.mem⟩
section
variable {F : lX} {R' ρ : Type} {w : R' -> ρ} {y : ρ} {s : List SB} {ps : cL} {z : List Nat}
theorem yQ {f:FuncId} {m:Bool} {tk:List Nat} {vs:List SV} {k:XRS->iC R'} (hS:cM s ps) {as args:List PV} (hx:exL ps (xX ps dN) as=some args) (hv:pvL vs=some args) (htk:tk=toksL (cU ps dN) as):
 ∀{l:List bF},(∀c∈l,aF F f c)->QR f m s tk vs k l ρ w=some y-> ∃sr pr,(∃n,callPure F (run F n) m f as ps z=some pr)/\gY s ps sr pr/\k (.loc sr) ρ w=some y
 | [],_,h=>by cases h
 |c::l,hl,h=>by
  simp only [QR] at h;cases hd:c.args.dec vs with
  |none=>rw [hd] at h;exact yQ hS hx hv htk (fun c hc=>hl c (List.mem_cons_of_mem _ hc)) h
  |some a=>
   rw [hd] at h;cases hmo:(m==c.ow) with
   |false=>
    rw [hmo] at h;exact yQ hS hx hv htk (fun c hc=>hl c (List.mem_cons_of_mem _ hc)) h
   |true=>
   rw [hmo] at h;obtain ⟨b,hb,h2⟩:=cW h;have hm:m=c.ow:=by simpa using hmo
   subst hm;have henc:=c.args.law hd hv;obtain ⟨n,r,hr,hres⟩:=hl c (List.mem_cons_self ..) a b as args ps z hb henc hx;cases hkd:c.kd with
   |pure=>
    rw [hkd] at h2 hres;obtain ⟨p,h3,rfl⟩:=hres;exact ⟨_,_,⟨n,hr⟩,by rw [<- htk];exact gY.val hS (XH h3),h2⟩
   |frz=>
    rw [hkd] at h2 hres;obtain ⟨p,h3,rfl⟩:=hres;exact ⟨_,_,⟨n,hr⟩,by rw [<- htk];exact gY.val hS (XH h3),h2⟩
   |own=>
    rw [hkd] at h2 hres;obtain ⟨p0,p,q,h3,h4,rfl⟩:=hres;rw [hS.len] at h4;have hbh:wD (s++(yM s.length (c.res.enc b)).2) s.length (yM s.length (c.res.enc b)).2:=fun j x hj=>by
     rw [List.getElem?_append_right (by omega)];simpa using hj
    obtain ⟨k1,k2⟩:=S6 h3 h4 hbh;exact ⟨_,_,⟨n,hr⟩,by rw [<- htk];exact gY.news hS k2.1 k2.2 k1,h2⟩
end
end Go.Vm
/- A call of a function that works on the blocks that are lent to it. -/
namespace Go.Vm
def qY {α:Type}:List (Nat×α)->List α->List α
 | [],s=>s
 |(t,b)::r,s=>qY r (s.set t b)
theorem wE: ∀(l:List (Nat×SB)) (s:List SB),qX l s=qY l s
 | [],s=>rfl
 |(t,b)::r,s=>by simp only [qX,qY,DD,wE r]
theorem FT: ∀(l:List (Nat×jZ)) (s:cL),gO l s=qY l s
 | [],s=>rfl
 |(t,b)::r,s=>by simp only [gO,qY,FT r]
theorem CD {α:Type}: ∀(l:List (Nat×α)) (s:List α),(qY l s).length=s.length
 | [],s=>rfl
 |(t,b)::r,s=>by simp [qY,CD r]
theorem wF {α:Type}: ∀(l:List (Nat×α)) (s:List α) (t:Nat),t∉l.map (·.1)->(qY l s)[t]? =s[t]?
 | [],s,t,_=>rfl
 |(u,b)::r,s,t,h=>by
  simp only [List.map_cons,List.mem_cons,not_or] at h;simp only [qY];rw [wF r _ t h.2,List.getElem?_set];simp [Ne.symm h.1]
theorem E1 {α:Type}: ∀(l:List (Nat×α)) (s:List α) (j t:Nat) (b:α),(l.map (·.1)).Nodup->l[j]? =some (t,b)->t<s.length->(qY l s)[t]? =some b
 | [],s,j,t,b,_,h,_=>by simp at h
 |(u,c)::r,s,0,t,b,hn,h,ht=>by
  simp at h;obtain ⟨rfl,rfl⟩:=h;simp only [List.map_cons,List.nodup_cons] at hn;simp only [qY];rw [wF r _ u hn.1,List.getElem?_set];simp [ht]
 |(u,c)::r,s,j+1,t,b,hn,h,ht=>by
  simp only [List.map_cons,List.nodup_cons] at hn;simp only [qY];exact E1 r _ j t b hn.2 (by simpa using h) (by simpa using ht)
theorem DN: ∀(l:List (Nat×SB)),yN l=l.map (·.1)
 | []=>rfl
 |(t,b)::r=>by simp [yN,DN r]
theorem KK (g:Nat->Nat): ∀(tk:List Nat) (s:List SB),s.length=tk.length->(A5 g tk s).map (·.1)=tk/\ ∀(j t:Nat) (b:SB),tk[j]? =some t->s[j]? =some b->(A5 g tk s)[j]? =some (t,WQ g b)
 | [],s,h=>⟨by simp [A5],fun j t b hj=>by simp at hj⟩
 |t::tk,[],h=>by simp at h
 |t::tk,b::s,h=>by
  obtain ⟨h1,h2⟩:=KK g tk s (by simpa using h)
  refine ⟨by simp [A5,h1],fun j u c hj hc=>?_⟩
  cases j with
  |zero=>simp at hj hc;subst hj hc;rfl
  |succ j=>simp only [A5,List.getElem?_cons_succ];exact h2 j u c (by simpa using hj) (by simpa using hc)
theorem II (g:Nat->Nat): ∀(tk:List Nat) (s:cL),tk.length<=s.length->(oJ g tk s).map (·.1)=tk/\ ∀(j t:Nat) (b:jZ),tk[j]? =some t->s[j]? =some b->(oJ g tk s)[j]? =some (t,AW g b)
 | [],s,h=>⟨by simp [oJ],fun j t b hj=>by simp at hj⟩
 |t::tk,[],h=>by simp at h
 |t::tk,b::s,h=>by
  obtain ⟨h1,h2⟩:=II g tk s (by simpa using h)
  refine ⟨by simp [oJ,h1],fun j u c hj hc=>?_⟩
  cases j with
  |zero=>simp at hj hc;subst hj hc;rfl
  |succ j=>simp only [oJ,List.getElem?_cons_succ];exact h2 j u c (by simpa using hj) (by simpa using hc)
theorem KL: ∀{l:List (Nat×jZ)},(l.map (·.1)).Nodup->vL l=true
 | [],_=>rfl
 |p::r,h=>by
  simp only [List.map_cons,List.nodup_cons] at h;simp only [vL,Bool.and_eq_true,List.all_eq_true,Bool.not_eq_true'];refine ⟨fun q hq=>?_,KL h.2⟩
  cases hb:Nat.beq q.1 p.1 with
  |false=>rfl
  |true=>exact absurd (List.mem_map.2 ⟨q,hq,Nat.eq_of_beq_eq_true hb⟩) h.1
theorem LY: ∀(s:List SB),FO [] s=s
 | []=>rfl
 |b::r=>by
  simp only [FO,LY r];cases b<;>simp [ZQ,dgL_nil]
theorem OE (s:List SB) (r:gR):r.stoOf s=FO (yN r.wr) (qX r.wr s)++r.news:=by
 unfold gR.stoOf;split
 · rename_i h;rw [h];simp only [yN,qX,LY,lC]
 · simp only [lC]
def aGI (g:Nat->Nat) (s s2:List SB):Prop:= ∀(u:Nat) (x:SB),s[u]? =some x->match x with
 | .arr r l=>s2[g u]? =some (.arr r l)
 | .dead=>s2[g u]? =some .dead
 |_=>True
mutual
theorem S7 {g:Nat->Nat} {s s2:List SB} (hb:aGI g s s2): ∀{v:SV} {p:PV},R s v p->R s2 (N1 g v) (renF g p)
 | .junk,_,_=>trivial
 | .undef,p,h| .nul,p,h| .nilf,p,h| .int _ _,p,h| .bool _,p,h| .str _,p,h| .sl _ _,p,h| .nil _ _,p,h| .bp _ _ _,p,h| .mp _,p,h=>by rw [show p=_ from h];rfl
 | .agg cs,p,h=>by obtain ⟨q,rfl,h⟩:=h;exact ⟨_,rfl,backL_R hb h⟩
 | .tup cs,p,h=>by obtain ⟨q,rfl,h⟩:=h;exact ⟨_,rfl,backL_R hb h⟩
 | .rptr cs o,p,h=>by obtain ⟨q,rfl,h⟩:=h;exact ⟨_,rfl,backL_R hb h⟩
 | .clo f a b,p,h=>by obtain ⟨pa,pb,rfl,h1,h2⟩:=h;exact ⟨_,_,rfl,backL_R hb h1,backL_R hb h2⟩
 | .own t ex,p,h=>by
  obtain ⟨e,n,rfl,hat⟩:=h;refine ⟨e,n,rfl,?_⟩;rcases hat with ⟨r,l,h1,h2,h3⟩|h1
  · exact .inl ⟨r,l,hb t _ h1,h2,h3⟩
  · exact .inr (hb t _ h1)
 | .pre t a b c,p,h=>by
  obtain ⟨e,rfl,hat⟩:=h;refine ⟨e,rfl,?_⟩;rcases hat with ⟨r,l,h1,h2⟩|h1
  · exact .inl ⟨r,l,hb t _ h1,h2⟩
  · exact .inr (hb t _ h1)
 | .part t o a b c,p,h=>by
  obtain ⟨e,rfl,hat⟩:=h;refine ⟨e,rfl,?_⟩;rcases hat with ⟨r,l,h1,h2⟩|h1
  · exact .inl ⟨r,l,hb t _ h1,h2⟩
  · exact .inr (hb t _ h1)
 | .pa t r i a o,p,h=>by
  obtain ⟨rfl,hat⟩:=h;refine ⟨_,rfl,?_⟩;rcases hat with ⟨l,h1,h2⟩|h1
  · exact .inl ⟨r,l,hb t _ h1,by rw [h2];rfl⟩
  · exact .inr (hb t _ h1)
 | .pb t i o,p,h=>by
  obtain ⟨e,rfl,hat⟩:=h;refine ⟨e,rfl,?_⟩;rcases hat with ⟨r,l,h1,h2⟩|h1
  · exact .inl ⟨r,l,hb t _ h1,h2⟩
  · exact .inr (hb t _ h1)
theorem backL_R {g:Nat->Nat} {s s2:List SB} (hb:aGI g s s2): ∀{v:List SV} {p:List PV},RL s v p->RL s2 (backL g v) (renFL g p)
 | [],p,h=>by rw [show p=_ from h];rfl
 |x::xs,p,h=>by
  obtain ⟨a,as,rfl,h1,h2⟩:=h.cons_inv;exact RL.cons (S7 hb h1) (backL_R hb h2)
end
theorem IJ: ∀{a b:cL},(∀(t:Nat) (x:jZ),a[t]? =some x-> ∃y,b[t]? =some y/\x.solid=y.solid)->vK a b=true
 | [],b,_=>by cases b<;>rfl
 |x::a,[],h=>by obtain ⟨y,hy,_⟩:=h 0 x rfl;simp at hy
 |x::a,y::b,h=>by
  obtain ⟨y',h1,h2⟩:=h 0 x rfl;simp at h1;subst h1
  have:=IJ (a:=a) (b:=b) (fun t x hx=>by simpa using h (t+1) x (by simpa using hx))
  simp only [vK,this,Bool.and_true,h2];cases y.solid<;>rfl
section
variable {F : lX} {R' ρ : Type} {w : R' -> ρ} {y : ρ} {s : List SB} {ps : cL} {z : List Nat}
theorem S8 {f:FuncId} {tk:List Nat} {vals vs:List SV} {s0:List SB} {k:XRS->iC R'} (hS:cM s ps) {pas:List PV} (hv:RL s vals pas) (htk:tk=oF (toksL (cU ps dN) pas)) (hz:(tk.all fun t=>!has z t)=true)
 (h1:renVL tk vals=some vs) (h2:JR s tk tk=some s0):
 ∀{l:List dA},(∀c∈l,jS F f c)->fpS f s.length tk vs s0 k l ρ w=some y-> ∃sr pr,(∃n,uC (run F n) f pas ps z=some pr)/\gY s ps sr pr/\k (.loc sr) ρ w=some y
 | [],_,h=>by cases h
 |c::l,hl,h=>by
  have next:fpS f s.length tk vs s0 k l ρ w=some y-> ∃sr pr,(∃n,uC (run F n) f pas ps z=some pr)/\gY s ps sr pr/\k (.loc sr) ρ w=some y:=
   fun h=>S8 hS hv htk hz h1 h2 (fun c hc=>hl c (List.mem_cons_of_mem _ hc)) h
  simp only [fpS] at h;cases hlk:(likeL c.ta vs&&HT c.tb s0) with
  |false=>rw [hlk] at h;exact next h
  |true=>
   rw [hlk] at h;simp only [cond_true] at h;cases hpo:qW c.ka (atsL vs++LQ s0) with
   |none=>rw [hpo] at h;exact next h
   |some a=>
    rw [hpo] at h;obtain ⟨b,hb,h3⟩:=cW h;simp only [Bool.and_eq_true] at hlk;have hats:=sC hpo;have hva:c.va a=vs:=by unfold dA.va;rw [hats,put_atsL _ hlk.1]
    have hsa:c.sa a=s0:=by
     unfold dA.sa;rw [hats,put_atsL _ hlk.1]
     have:=DL [] hlk.2
     rw [List.append_nil] at this;rw [this]
    have hren:IG tk s s0:=by have:=IG.of (l:=[]) h2;rwa [List.append_nil] at this
    obtain ⟨pa',a1,a2⟩:=renVL_R hren hv h1;obtain ⟨p0,b1,b2,b3⟩:=EX hS hren h2;have hs0:cM s0 p0:=⟨b2,b3⟩;obtain ⟨hs0l,hs0g⟩:=yP h2;obtain ⟨n,v,sr,r1,r2,r3,r4,r5,r6⟩:=hl c (List.mem_cons_self ..) a b pa' p0 hb (by rw [hva,hsa];exact a2) (by rw [hsa];exact hs0)
    rw [hsa] at r2 r4 r5 r6;have hnd:tk.Nodup:=by rw [htk];exact tM
    have htl: ∀t∈tk,t<s.length:=fun t ht=>by
     obtain ⟨j,hj,he⟩:=List.getElem_of_mem ht;obtain ⟨x,c',d1,_,_⟩:=hs0g j t (by rw [List.getElem?_eq_getElem hj,he])
     exact (List.getElem?_eq_some_iff.1 d1).1
    have hsbl:(c.sb b).length=tk.length:=by rw [r5,hs0l]
    have hsrl:tk.length<=sr.length:=by
     have:=r4.len
     rw [List.length_take,hsbl] at this;rw [hs0l] at this;omega
    have htake: ∀j,j<tk.length->(sr.take s0.length)[j]? =sr[j]?:=fun j hj=>List.getElem?_take_of_lt (by rw [hs0l];exact hj)
    have hfirm:vK p0 sr=true:=IJ (fun t x hx=>by
     have htl':t<s0.length:=by have:=(List.getElem?_eq_some_iff.1 hx).1;rw [b2] at this;exact this
     obtain ⟨x0,hx0⟩: ∃x0,s0[t]? =some x0:=⟨s0[t],List.getElem?_eq_getElem htl'⟩;obtain ⟨q,q1,q2⟩:=b3 t x0 hx0;rw [hx] at q1;injection q1 with q1;subst q1;obtain ⟨y0,hy0⟩: ∃y0,(c.sb b)[t]? =some y0:=⟨(c.sb b)[t]'(by omega),List.getElem?_eq_getElem (by omega)⟩
     obtain ⟨q',q3,q4⟩:=r4.at_ t y0 hy0;rw [htake t (by omega)] at q3
     refine ⟨q',q3,?_⟩;have hfm:=r6 t x0 y0 hx0 hy0;cases x0 with
     |arr r l=>cases y0 with
      |arr r' l'=>
       obtain ⟨rfl,hll⟩:=hfm;rw [show x=_ from q2,show q'=_ from q4];cases l<;>cases l'<;>simp_all [jZ.solid]
      |_=>exact hfm.elim
     |box cs=>cases y0 with
      |box cs'=>obtain ⟨_,rfl,_⟩:=q2;obtain ⟨_,rfl,_⟩:=q4;rfl
      |_=>exact hfm.elim
     |set l=>cases y0 with
      |set l'=>rw [show x=_ from q2,show q'=_ from q4];rfl
      |_=>exact hfm.elim
     |dead=>cases y0 with
      |dead=>rw [show x=_ from q2,show q'=_ from q4]
      |_=>exact hfm.elim)
    let g:=jH tk s.length
    have hg: ∀j t,tk[j]? =some t->g j=t:=fun j t hj=>by show jH tk s.length j=t;unfold jH;rw [hj]
    obtain ⟨w1,w2⟩:=KK g tk (c.sb b) hsbl;obtain ⟨u1,u2⟩:=II g tk sr hsrl
    let s2:=FO tk (qX (A5 g tk (c.sb b)) s)
    have hin: ∀(j t:Nat) (x:SB),tk[j]? =some t->(c.sb b)[j]? =some x->s2[t]? =some (ZQ tk (WQ g x)):=fun j t x hj hx=>by
     show (FO tk _)[t]? =_;rw [vY,wE,E1 _ s j t _ (by rw [w1];exact hnd) (w2 j t x hj hx) (htl t (List.mem_of_getElem? hj))]
     rfl
    have hout: ∀(t:Nat),t∉tk->s2[t]? =(s[t]?).map (ZQ tk):=fun t ht=>by
     show (FO tk _)[t]? =_;rw [vY,wE,wF _ s t (by rw [w1];exact ht)]
    have hmem: ∀t∈tk,∃j,tk[j]? =some t:=fun t ht=>by
     obtain ⟨j,hj,he⟩:=List.getElem_of_mem ht;exact ⟨j,by rw [List.getElem?_eq_getElem hj,he]⟩
    have hfr:Fr tk s s2:=fun t x hx=>by
     by_cases ht:t∈tk
     · obtain ⟨j,hj⟩:=hmem t ht
       have hjl:j<tk.length:=(List.getElem?_eq_some_iff.1 hj).1;obtain ⟨x',c',d1,d2,d3⟩:=hs0g j t hj;rw [hx] at d1;injection d1 with d1;subst d1;obtain ⟨y0,hy0⟩: ∃y0,(c.sb b)[j]? =some y0:=⟨(c.sb b)[j]'(by omega),List.getElem?_eq_getElem (by omega)⟩
       have hfm:=r6 j c' y0 d3 hy0;have hs2:=hin j t y0 hj hy0;cases x with
       |arr r l=>
        injection d2 with d2;subst d2;cases y0 with
        |arr r' l'=>
         obtain ⟨rfl,hll⟩:=hfm;refine .inl ⟨l',hs2,hll,fun hb=>?_⟩
         exfalso
         have:has tk t=true:=by unfold has;rw [List.any_eq_true];exact ⟨t,ht,by simp⟩
         rw [this] at hb;cases hb
        |_=>exact hfm.elim
       |dead=>
        injection d2 with d2;subst d2;cases y0 with
        |dead=>exact hs2
        |_=>exact hfm.elim
       |_=>trivial
     · have:=hout t ht
       rw [hx] at this;cases x with
       |arr r l=>exact .inl ⟨l,this,rfl,fun _=>rfl⟩
       |dead=>exact this
       |_=>trivial
    have hback:aGI g (c.sb b) s2:=fun u x hx=>by
     have hul:u<tk.length:=by have:=(List.getElem?_eq_some_iff.1 hx).1;omega
     have hj:tk[u]? =some tk[u]:=List.getElem?_eq_getElem hul
     have:=hin u _ x hj hx
     rw [hg u _ hj];cases x with
     |arr r l=>exact this
     |dead=>exact this
     |_=>trivial
    have hRes:(∃n,uC (run F n) f pas ps z=some {v:=renF g v,wr:=oJ g tk sr}):=by
     refine ⟨n,?_⟩;unfold uC ZG;rw [<- htk,if_pos hz,a1,b1];dsimp only;rw [r1];dsimp only;unfold GV;rw [if_pos hfirm,hS.len]
     have:gE tk.length v sr=true:=by rw [<- hs0l];exact r2
     rw [if_pos this]
    refine ⟨{v:=N1 g (c.vb b),wr:=A5 g tk (c.sb b)},_,hRes,?_,h3⟩;have hst:gR.stoOf s {v:=N1 g (c.vb b),wr:=A5 g tk (c.sb b)}=s2:=by
     rw [OE,List.append_nil,DN,w1]
    exact {
     rd:=rfl
     fr:=rfl
     wr:=by rw [DN,w1];exact u1
     nw:=KL (by rw [u1];exact hnd)
     nl:=rfl
     sto:=by
      rw [hst];show cM s2 (gO (oJ g tk sr) ps);rw [FT];refine ⟨by rw [CD,DE,wE,CD,hS.len],fun t x hx=>?_⟩
      by_cases ht:t∈tk
      · obtain ⟨j,hj⟩:=hmem t ht
        have hjl:j<tk.length:=(List.getElem?_eq_some_iff.1 hj).1;obtain ⟨y0,hy0⟩: ∃y0,(c.sb b)[j]? =some y0:=⟨(c.sb b)[j]'(by omega),List.getElem?_eq_getElem (by omega)⟩
        have hs2:=hin j t y0 hj hy0;rw [hx] at hs2;injection hs2 with hs2;subst hs2;obtain ⟨q',q3,q4⟩:=r4.at_ j y0 hy0;rw [htake j hjl] at q3;refine ⟨AW g q',E1 _ ps j t _ (by rw [u1];exact hnd) (u2 j t q' hj q3) (by rw [hS.len];exact htl t ht),?_⟩
        cases y0 with
        |box cs=>
         obtain ⟨pc,rfl,hpc⟩:=q4;exact ⟨_,rfl,RL.fr (Fr.refl tk s2) (backL_R hback hpc)⟩
        |arr r l=>rw [show q'=_ from q4];rfl
        |set l=>rw [show q'=_ from q4];rfl
        |dead=>rw [show q'=_ from q4];rfl
      · rw [hout t ht,Option.map_eq_some_iff] at hx
        obtain ⟨x0,hx0,rfl⟩:=hx;obtain ⟨q,q1,q2⟩:=hS.at_ t x0 hx0;exact ⟨q,by rw [wF _ ps t (by rw [u1];exact ht)];exact q1,q2.fr hfr⟩
     v:=by rw [hst];exact S7 hback r3
     fra:=by rw [hst,DN,w1];exact hfr}
end
end Go.Vm
/- What the typed machine makes of a function is what the logical machine runs. -/
namespace Go.Vm
section
variable {F : lX}
theorem WO.shrAny {o:aY} {r:List aY} {st:St} {tr:List Tr} {Q:St->List Tr->Prop} {f:FuncId} {args:List PV}
 (hw:wanted o.guard st.env=some true) (hop: ∀n,xH F (run F n) st.env st.sto st.fz o.op=eQ (run F n) f args st.sto st.fz)
 (h:GY F f args st.sto st.fz fun v s z=>(Nat.ble st.sto.length s.length&&st.fz.all (has z))=true/\WO F r {st with env:=gT o.dst v st.env,sto:=s,fz:=z} (WN::tr) Q):
 WO F (o::r) st tr Q:=by
 obtain ⟨n,v,s,z,hr,hc,hk⟩:=h;refine WO.call (.shr v s z) hw ⟨n,?_⟩ rfl hk;rw [hop];simp only [eQ,hr];rw [if_pos hc]
theorem WP.again {live:List (Nat×Option Nat)} {b:fT} {st s1:St} {Q:gA->St->Prop} (h0:F4 live st=some s1) (h:WP F b s1 (GC (fun s=>WP F (.loop live b) s Q) Q)):WP F (.loop live b) st Q:=by
 obtain ⟨m,e,s,he,hq⟩:=h;cases e with
 |normal=>
  obtain ⟨k,e',s',he',hq'⟩:=hq;refine ⟨max m k+1,e',s',?_,hq'⟩;simp only [tE] at he' ⊢;rw [qB];simp only [step,h0];rw [qA (qC F (Nat.le_max_left m k)) _ _ _ he];dsimp only;split at he'
  · rename_i e1 s1 hr1
    rw [qC F (Nat.le_max_right m k) _ _ hr1];exact he'
  · cases he'
 |exit i=>exact ⟨m+1,.exit i,s,by simp only [tE];rw [qB];simp only [step,h0,he],hq⟩
 |ret=>exact ⟨m+1,.ret,s,by simp only [tE];rw [qB];simp only [step,h0,he],hq⟩
def OF (F : lX) (inl : ZR) : Prop :=
  ∀ (f : FuncId) (args : List SV) (s : List SB) (z : List Nat) (R' : Type) (k : SV -> List SB -> List Nat -> iC R') (ρ : Type) (w : R' -> ρ) (y : ρ) (pa : List PV) (ps : cL) (Q : R' -> PV -> cL -> List Nat -> Prop),
    RL s args pa -> cM s ps -> inl f args s z R' k ρ w = some y ->
    (∀ v s' z' p ps' ρ' (w' : R' -> ρ') y', R s' v p -> cM s' ps' -> k v s' z' ρ' w' = some y' -> ∃ r, y' = w' r /\ Q r p ps' z') ->
    ∃ r, y = w r /\ GY F f pa ps z (fun p ps' z' => Q r p ps' z')
def S9:SB->SB->Prop
 | .arr r l,b=>(∃l',b= .arr r l'/\l'.length=l.length)\/b= .dead
 | .dead,b=>b= .dead
 |_,_=>True
theorem DO {R' ρ:Type} {w:R'->ρ} {y:ρ}: ∀{s s':List SB} {k:iC R'},tN s s' k ρ w=some y->k ρ w=some y/\s.length<=s'.length/\
 ∀(t:Nat) (b:SB),s[t]? =some b-> ∃b',s'[t]? =some b'/\S9 b b'
 | [],s',k,h=>⟨by cases s'<;>exact h,Nat.zero_le _,fun t b ht=>by simp at ht⟩
 |x::xs,[],k,h=>by cases h
 |x::xs,y'::ys,k,h=>by
  have step: ∀(_:tN xs ys k ρ w=some y) (_:S9 x y'),k ρ w=some y/\(x::xs).length<=(y'::ys).length/\ ∀(t:Nat) (b:SB),(x::xs)[t]? =some b-> ∃b',(y'::ys)[t]? =some b'/\S9 b b':=by
   intro h hx;obtain ⟨h1,h2,h3⟩:=DO h;refine ⟨h1,by simpa using h2,fun t b ht=>?_⟩
   cases t with
   |zero=>simp at ht;subst ht;exact ⟨y',rfl,hx⟩
   |succ t=>simpa using h3 t b (by simpa using ht)
  cases x with
  |arr r l=>
   cases y' with
   |arr q m=>
    obtain ⟨hr,h2⟩:=cJ (a:=fK (m.length==l.length) (tN xs ys k) aN) h;obtain ⟨hl,h3⟩:=gF h2
    have:=uZ hr
    subst this;exact step h3 (.inl ⟨m,rfl,by simpa using hl⟩)
   |dead=>exact step h (.inr rfl)
   |_=>cases h
  |dead=>
   cases y' with
   |dead=>exact step h rfl
   |_=>cases h
  |box cs=>exact step h trivial
  |set l=>exact step h trivial
theorem XJ {n t:Nat} (h:t<n):has (uP n) t=true:=by
 induction n with
 |zero=>omega
 |succ n ih=>
  unfold has at ih ⊢;rw [List.any_eq_true] at*;simp only [uP,List.mem_append,List.mem_singleton];rcases Nat.lt_or_ge t n with h1|h1
  · obtain ⟨x,h2,h3⟩:=ih h1
    exact ⟨x,.inl h2,h3⟩
  · have:t=n:=by omega
    subst this;exact ⟨t,.inr rfl,by simp⟩
theorem Q0 {s s':List SB} (h: ∀(t:Nat) (b:SB),s[t]? =some b-> ∃b',s'[t]? =some b'/\S9 b b'):Fr (uP s.length) s s':=fun t b hb=>by
 obtain ⟨b',h1,h2⟩:=h t b hb;have hlt:=(List.getElem?_eq_some_iff.1 hb).1;cases b with
 |arr r l=>
  rcases h2 with ⟨l',rfl,h3⟩|rfl
  · exact .inl ⟨l',h1,h3,fun hx=>by rw [XJ hlt] at hx;cases hx⟩
  · exact .inr h1
 |dead=>rw [show b'= .dead from h2] at h1;exact h1
 |_=>trivial
theorem aLU {s:List SB} {ps:cL} {sr:gR} {pr:oD} (G:gY s ps sr pr) (hS:cM s ps):(XR.loc pr).tr ps.length=sr.tr s.length:=by
 simp only [XR.tr,gR.tr,G.rd,G.fr,hS.len,<- G.wr,G.nl,List.all_map]
 have:pr.news.isEmpty=sr.news.isEmpty:=by
  have:=G.nl
  cases h1:pr.news<;>cases h2:sr.news<;>simp_all
 rw [this];rfl
theorem aGJ {st:qF} {p:St} (h:A7 st p) {sr:gR} {pr:oD} (G:gY st.sto p.sto sr pr) (d:Option Nat):A7 (sr.next d st) ((XR.loc pr).next d p):=by
 have hput: ∀{s:List SB} {e:SE} {pe:tB} {v:SV} {q:PV},dB s e pe->R s v q->dB s (LR d v e) (gT d q pe):=by
  intro s e pe v q he hv;cases d with
  |none=>exact he
  |some t=>exact ⟨q,pe,rfl,hv,he⟩
 have hs:=OE st.sto sr;unfold gR.next
 split
 · rename_i hw
   rw [hw] at hs;simp only [yN,qX,LY] at hs;have hsto:=G.sto;have hv:=G.v;have hfr:=G.fra;rw [hs] at hsto hv hfr;rw [hw] at hfr;exact ⟨by simp only [lC];exact hput (dB.ext hfr h.env) hv,by simp only [lC];exact hsto,by simp only [XR.next,G.fr,h.fz],h.kn⟩
 · have hsto:=G.sto
   have hv:=G.v;have hfr:=G.fra;rw [hs] at hsto hv hfr;exact ⟨by simp only [lC];exact hput (dB.fr hfr h.env) hv,by simp only [lC];exact hsto,by simp only [XR.next,G.fr,h.fz],h.kn⟩
theorem aLV {s:List SB} {ps:cL} {sr:gR} {pr:oD} (G:gY s ps sr pr) {z:List Nat} (h:sr.ok z=true):(XR.loc pr).ok z=true:=by
 simp only [XR.ok,G.nw,Bool.and_true];unfold gR.ok at h;rw [<- G.wr,List.all_map] at h;exact h
section
variable {cx : VU} {inl : ZR} {R' : Type}
def aNH (_F:lX) (k:qF->List Tr->iC R') (Q:R'->St->List Tr->Prop):Prop:=
 ∀st p tr ρ (w:R'->ρ) y,A7 st p->k st tr ρ w=some y-> ∃r,y=w r/\Q r p tr
theorem wG {o:aY} {l:List aY} {st:qF} {p:St} {tr:List Tr} {k:qF->List Tr->iC R'} {ρ:Type} {w:R'->ρ} {y:ρ} {Q:R'->St->List Tr->Prop}
 (hl: ∀st p tr ρ (w:R'->ρ) y,A7 st p->k st tr ρ w=some y-> ∃r,y=w r/\WO F l p tr (Q r)) (h:A7 st p) {sr:gR} {pr:oD} (hw:wanted o.guard p.env=some true)
 (hx: ∃n,xH F (run F n) p.env p.sto p.fz o.op=some (.loc pr)) (G:gY st.sto p.sto sr pr) (hg:SX o.dst st tr k (.loc sr) ρ w=some y): ∃r,y=w r/\WO F (o::l) p tr (Q r):=by
 unfold SX at hg;dsimp only at hg;obtain ⟨hok,hg⟩:=cJ hg;rw [LN] at hg;have hR:=aGJ h G o.dst;obtain ⟨r,hr,hwo⟩:=hl _ _ _ _ _ _ hR hg;refine ⟨r,hr,WO.call (.loc pr) hw hx (by rw [h.fz];exact aLV G hok) ?_⟩
 rw [aLU G h.sto];exact hwo
theorem OG (hcx:jY F cx) (hinl:OF F inl) {o:aY} {l:List aY} {st:qF} {p:St} {tr:List Tr} {k:qF->List Tr->iC R'} {ρ:Type} {w:R'->ρ} {y:ρ} {Q:R'->St->List Tr->Prop}
 (hl: ∀st p tr ρ (w:R'->ρ) y,A7 st p->k st tr ρ w=some y-> ∃r,y=w r/\WO F l p tr (Q r)) (h:A7 st p) (hw:wanted o.guard p.env=some true)
 (hg:KA cx inl st.env st.sto st.fz o.op (SX o.dst st tr k) ρ w=some y): ∃r,y=w r/\WO F (o::l) p tr (Q r):=by
 have hS:=h.sto;have hE:=h.env;have shr: ∀(f:FuncId) (vals:List SV) (pas:List PV),RL st.sto vals pas->(∀n,xH F (run F n) p.env p.sto p.fz o.op=eQ (run F n) f pas p.sto p.fz)->
  inl f vals st.sto st.fz R' (fun v s' z'=>SX o.dst st tr k (.shr v s' z')) ρ w=some y-> ∃r,y=w r/\WO F (o::l) p tr (Q r):=by
  intro f vals pas hv hop hi;obtain ⟨r,hr,hd⟩:=hinl f vals st.sto st.fz R' _ ρ w y pas p.sto (fun r v s z=>(Nat.ble p.sto.length s.length&&p.fz.all (has z))=true/\WO F l {p with env:=gT o.dst v p.env,sto:=s,fz:=z} (WN::tr) (Q r)) hv hS hi
   (fun v s' z' pv ps' ρ' w' y' hR hS' hk=>by
    unfold SX at hk;dsimp only at hk;rw [LN] at hk;obtain ⟨hk,hlen,hsame⟩:=DO hk;obtain ⟨hz,hk⟩:=cJ hk;have hfr:=Q0 hsame;have hput:dB s' (LR o.dst v (dgE (uP st.sto.length) st.env)) (gT o.dst pv p.env):=by
     cases o.dst with
     |none=>exact dB.fr hfr hE
     |some t=>exact ⟨pv,p.env,rfl,hR,dB.fr hfr hE⟩
    have hR':A7 {env:=LR o.dst v (dgE (uP st.sto.length) st.env),sto:=s',fz:=z',kn:=st.kn} {p with env:=gT o.dst pv p.env,sto:=ps',fz:=z'}:=⟨hput,hS',rfl,h.kn⟩;obtain ⟨r,hr,hwo⟩:=hl _ _ _ _ _ _ hR' hk;refine ⟨r,hr,?_,hwo⟩;rw [h.fz,hz,Bool.and_true,hS.len,hS'.len];simpa using hlen)
  refine ⟨r,hr,WO.shrAny hw hop ?_⟩;rw [h.fz];rw [h.fz] at hd;exact hd
 have loc: ∀{k':gR->iC R'},lJ st.env st.sto st.fz o.op k' ρ w=some y->EQ o.op=false->(∀sr,k' sr=SX o.dst st tr k (.loc sr))-> ∃r,y=w r/\WO F (o::l) p tr (Q r):=by
  intro k' hv hc hk;obtain ⟨sr,pr,h1,G,h2⟩:=Z3 hE hS (pe:=p.env) hv;rw [hk] at h2;exact wG hl h hw ⟨0,by rw [LM hc,h.fz,h1];rfl⟩ G h2
 generalize hop:o.op=op at hg;cases op with
 |call m f args=>
  have hargs:=zU hE args;simp only [KA] at hg;cases m with
  |pur=>
   dsimp only at hg;cases hx:exVL st.sto (lK st.sto dN) (iN st.env args) with
   |none=>rw [hx] at hg;cases hg
   |some vs=>
    rw [hx] at hg;obtain ⟨q,h1,h2⟩:=exVL_R hS (GG hS dN) hargs hx;obtain ⟨sr,pr,⟨n,h3⟩,G,h4⟩:=yQ (f:=f) (z:=st.fz) hS h1 h2 (tkExL hS (ID hS dN) hargs hx) (fun c hc=>hcx.con f c hc) hg
    exact wG hl h hw ⟨n,by rw [hop,h.fz];simp only [xH,h3];rfl⟩ G h4
  |own=>
   dsimp only at hg;cases hx:exVL st.sto (lK st.sto dN) (iN st.env args) with
   |none=>rw [hx] at hg;cases hg
   |some vs=>
    rw [hx] at hg;obtain ⟨q,h1,h2⟩:=exVL_R hS (GG hS dN) hargs hx;obtain ⟨sr,pr,⟨n,h3⟩,G,h4⟩:=yQ (f:=f) (z:=st.fz) hS h1 h2 (tkExL hS (ID hS dN) hargs hx) (fun c hc=>hcx.con f c hc) hg
    exact wG hl h hw ⟨n,by rw [hop,h.fz];simp only [xH,h3];rfl⟩ G h4
  |shr=>exact shr f _ _ hargs (fun n=>by rw [hop];rfl) hg
  |fp=>
   dsimp only at hg;cases hx:exVL st.sto (lK st.sto dN) (iN st.env args) with
   |none=>rw [hx] at hg;cases hg
   |some vs0=>
    rw [hx] at hg;dsimp only at hg;obtain ⟨hz,hg⟩:=cJ hg;cases h1:renVL (oF (tkVL (B3 st.sto dN) (iN st.env args))) (iN st.env args) with
    |none=>rw [h1] at hg;cases hg
    |some vs=>
     cases h2:JR st.sto (oF (tkVL (B3 st.sto dN) (iN st.env args))) (oF (tkVL (B3 st.sto dN) (iN st.env args))) with
     |none=>rw [h1,h2] at hg;cases hg
     |some s0=>
      rw [h1,h2] at hg;obtain ⟨sr,pr,⟨n,h3⟩,G,h4⟩:=S8 (f:=f) (z:=st.fz) hS hargs (by rw [tkExL hS (ID hS dN) hargs hx]) hz h1 h2 (fun c hc=>hcx.fpc f c hc) hg
      exact wG hl h hw ⟨n,by rw [hop,h.fz];simp only [xH,h3];rfl⟩ G h4
 |callv x args=>
  have hargs:=zU hE args;simp only [KA] at hg;have hx:=dK hE x;generalize bK st.env x=v at hg hx;cases v with
  |clo f a b=>
   dsimp only at hg;obtain ⟨pa,pb,hx,ha,hb⟩:=hx;have hany: ∀{vs:List SV} {q:List PV},RL st.sto vs q->(anyPtr vs=true->q.any GU=true):=by
    intro vs
    induction vs with
    |nil=>intro q _ h;cases h
    |cons v vs ih=>
     intro q hq hp;obtain ⟨a,as,rfl,h1,h2⟩:=hq.cons_inv;simp only [anyPtr,Bool.or_eq_true] at hp;simp only [List.any_cons,Bool.or_eq_true];rcases hp with hp|hp
     · left
       cases v with
       |own _ _=>obtain ⟨_,_,rfl,_⟩:=h1;rfl
       |pre _ _ _ _=>obtain ⟨_,rfl,_⟩:=h1;rfl
       |part _ _ _ _ _=>obtain ⟨_,rfl,_⟩:=h1;rfl
       |pa _ _ _ _ _=>obtain ⟨rfl,_⟩:=h1;rfl
       |pb _ _ _=>obtain ⟨_,rfl,_⟩:=h1;rfl
       |bp _ _ _=>rw [show a=_ from h1];rfl
       |mp _=>rw [show a=_ from h1];rfl
       |_=>cases hp
     · right;exact ih h2 hp
   cases hp:anyPtr (iN st.env args++b) with
   |true=>
    rw [hp] at hg
    have:=hany (hargs.append hb) hp
    exact shr f _ _ ((ha.append hargs).append hb) (fun n=>by rw [hop];simp only [xH,hx,this,if_true]) hg
   |false=>
    rw [hp] at hg;simp only [cond_false] at hg;cases hxx:exVL st.sto (lK st.sto dN) (a++iN st.env args++b) with
    |none=>rw [hxx] at hg;cases hg
    |some vs=>
     rw [hxx] at hg;have hno: ∀{vs u:List SV} {q:List PV},RL st.sto vs q->anyPtr vs=false->exVL st.sto (lK st.sto dN) vs=some u->q.any GU=false:=by
      intro vs
      induction vs with
      |nil=>intro u q hq _ _;rw [show q=[] from hq];rfl
      |cons v vs ih=>
       intro u q hq hp hu;obtain ⟨a,as,rfl,h1,h2⟩:=hq.cons_inv;simp only [anyPtr,Bool.or_eq_false_iff] at hp;simp only [exVL] at hu;split at hu
       · rename_i y1 y2 e1 e2
         simp only [List.any_cons,ih h2 hp.2 e2,Bool.or_false];cases v with
         |agg _|tup _|rptr _ _=>obtain ⟨_,rfl,_⟩:=h1;rfl
         |clo _ _ _=>obtain ⟨_,_,rfl,_⟩:=h1;rfl
         |int _ _|bool _|str _|nilf|sl _ _|nil _ _|undef|nul=>rw [show a=_ from h1];rfl
         |junk=>cases e1
         |own _ _|pre _ _ _ _|part _ _ _ _ _|pa _ _ _ _ _|pb _ _ _|bp _ _ _|mp _=>cases hp.1
       · cases hu
     have hsplit: ∃u2,exVL st.sto (lK st.sto dN) (iN st.env args++b)=some u2:=by
      have: ∀(l:List SV) {m u:List SV},exVL st.sto (lK st.sto dN) (l++m)=some u-> ∃u2,exVL st.sto (lK st.sto dN) m=some u2:=by
       intro l
       induction l with
       |nil=>intro m u h;exact ⟨u,h⟩
       |cons x l ih=>
        intro m u h;simp only [List.cons_append,exVL] at h;split at h
        · rename_i e1 e2;exact ih e2
        · cases h
      rw [List.append_assoc] at hxx;exact this a hxx
     obtain ⟨u2,hu2⟩:=hsplit;have hno':=hno (hargs.append hb) hp hu2;have hall:=(ha.append hargs).append hb;obtain ⟨q,h1,h2⟩:=exVL_R hS (GG hS dN) hall hxx;obtain ⟨sr,pr,⟨n,h3⟩,G,h4⟩:=yQ (f:=f) (z:=st.fz) hS h1 h2 (tkExL hS (ID hS dN) hall hxx) (fun c hc=>hcx.con f c hc) hg
     exact wG hl h hw ⟨n,by rw [hop,h.fz];simp only [xH,hx,hno',Bool.false_eq_true,if_false,h3];rfl⟩ G h4
  |_=>cases hg
 |_=>exact loc (k':=fun r=>SX o.dst st tr k (.loc r)) (by rw [hop];exact hg) (by rw [hop];rfl) (fun _=>rfl)
theorem wH (hcx:jY F cx) (hinl:OF F inl): ∀(ops:List aY) {st:qF} {p:St} {tr:List Tr} {k:qF->List Tr->iC R'} {ρ:Type} {w:R'->ρ} {y:ρ} {Q:R'->St->List Tr->Prop},
 aNH F k Q->A7 st p->oP cx inl ops st tr k ρ w=some y-> ∃r,y=w r/\WO F ops p tr (Q r)
 | [],st,p,tr,k,ρ,w,y,Q,hk,h,he=>by
  obtain ⟨r,hr,hq⟩:=hk st p tr ρ w y h he;exact ⟨r,hr,WO.nil hq⟩
 |o::l,st,p,tr,k,ρ,w,y,Q,hk,h,he=>by
  have hl: ∀st p tr ρ (w:R'->ρ) y,A7 st p->oP cx inl l st tr k ρ w=some y-> ∃r,y=w r/\WO F l p tr (Q r):=fun st p tr ρ w y h he=>wH hcx hinl l hk h he
  have setR: ∀{st:qF} {c:Nat} {v:SV},A7 st p->R st.sto v (lk c p.env)->A7 {st with env:=setS c v st.env} p:=fun h hv=>⟨h.env.setS hv,h.sto,h.fz,h.kn⟩
  have run': ∀{st:qF},A7 st p->wanted o.guard p.env=some true->(match o.op with
   | .pick (.t c) a b=>match JN c st.env with
    | .bool x=>fK x (SX o.dst {st with env:=setS c (.bool true) st.env} tr (oP cx inl l · · k) (.loc {v:=bK st.env a}))
     (SX o.dst {st with env:=setS c (.bool false) st.env} tr (oP cx inl l · · k) (.loc {v:=bK st.env b}))
    |_=>aN
   |op=>KA cx inl st.env st.sto st.fz op (SX o.dst st tr (oP cx inl l · · k))) ρ w=some y-> ∃r,y=w r/\WO F (o::l) p tr (Q r):=by
   intro st h hw he;have plain:KA cx inl st.env st.sto st.fz o.op (SX o.dst st tr (oP cx inl l · · k)) ρ w=some y-> ∃r,y=w r/\WO F (o::l) p tr (Q r):=fun he=>OG hcx hinl hl h hw he
   generalize hop:o.op=op at he;cases op with
   |pick c a b=>
    cases c with
    |c v=>exact plain (by rw [hop];exact he)
    |t c=>
     dsimp only at he;generalize hv:JN c st.env=v at he;cases v with
     |bool x=>
      have hx:lk c p.env= .bool x:=by have:=h.env.lk c;rw [hv] at this;exact this
      rcases dU he with ⟨rfl,he⟩|⟨rfl,he⟩
      · have hR:=setR h (c:=c) (v:= .bool true) hx
        exact wG (o:=o) hl hR hw ⟨0,by rw [hop];simp only [xH,bC,eO.ev,hx];rfl⟩ (gY.val hR.sto (dK h.env a)) he
      · have hR:=setR h (c:=c) (v:= .bool false) hx
        exact wG (o:=o) hl hR hw ⟨0,by rw [hop];simp only [xH,bC,eO.ev,hx];rfl⟩ (gY.val hR.sto (dK h.env b)) he
     |_=>cases he
   |_=>exact plain (by rw [hop];exact he)
  have skip': ∀{st:qF},A7 st p->wanted o.guard p.env=some false->oP cx inl l {st with env:=LR o.dst .nul st.env} (Tr.idle::tr) k ρ w=some y-> ∃r,y=w r/\WO F (o::l) p tr (Q r):=by
   intro st h hw he;have hR:A7 {st with env:=LR o.dst .nul st.env} {p with env:=gT o.dst .nul p.env}:=by
    refine ⟨?_,h.sto,h.fz,h.kn⟩;cases o.dst with
    |none=>exact h.env
    |some t=>exact ⟨.nul,p.env,rfl,rfl,h.env⟩
   obtain ⟨r,hr,hwo⟩:=hl _ _ _ _ _ _ hR he;exact ⟨r,hr,WO.skip hw hwo⟩
  simp only [oP] at he;cases hgd:o.guard with
  |none=>
   rw [hgd] at he;exact run' h (by rw [hgd];rfl) he
  |some g=>
   obtain ⟨c,want⟩:=g;rw [hgd] at he;dsimp only at he;generalize hv:JN c st.env=v at he;cases v with
   |bool x=>
    have hx:lk c p.env= .bool x:=by have:=h.env.lk c;rw [hv] at this;exact this
    have hwx: ∀b,x=b->wanted o.guard p.env=some (b==want):=fun b hb=>by rw [hgd];simp only [wanted,hx,hb]
    cases want with
    |true=>
     simp only [cond_true] at he;rcases dU he with ⟨rfl,he⟩|⟨rfl,he⟩
     · exact run' (setR h (v:= .bool true) hx) (hwx true rfl) he
     · exact skip' (setR h (v:= .bool false) hx) (hwx false rfl) he
    |false=>
     simp only [cond_false] at he;rcases dU he with ⟨rfl,he⟩|⟨rfl,he⟩
     · exact skip' (setR h (v:= .bool true) hx) (hwx true rfl) he
     · exact run' (setR h (v:= .bool false) hx) (hwx false rfl) he
   |nul=>
    have hx:lk c p.env= .nul:=by have:=h.env.lk c;rw [hv] at this;exact this
    exact skip' h (by rw [hgd];simp only [wanted,hx]) he
   |_=>cases he
theorem IK {e:SE}: ∀{keep:List Nat} {k:SE->iC R'} {ρ:Type} {w:R'->ρ} {y:ρ},N2 e keep k ρ w=some y->k (keep.map fun s=>(s,JN s e)) ρ w=some y
 | [],k,ρ,w,y,h=>h
 |s::r,k,ρ,w,y,h=>by
  simp only [N2] at h;rw [LN] at h
  have:=IK h
  exact this
theorem XK {s:List SB} {e:SE} {pe:tB} (h:dB s e pe): ∀(keep:List Nat),dB s (keep.map fun t=>(t,JN t e)) (keep.map fun t=>(t,lk t pe))
 | []=>rfl
 |t::r=>⟨_,_,rfl,h.lk t,XK h r⟩
end
mutual
theorem KM: ∀(v:SV) (q:List xW),tF v (EU v++q)=(v,q)
 | .junk,q| .undef,q| .nul,q| .nilf,q| .int _ _,q| .bool _,q| .str _,q| .sl _ _,q| .nil _ _,q| .own _ _,q| .pre _ _ _ _,q| .part _ _ _ _ _,q| .pa _ _ _ _ _,q| .pb _ _ _,q| .bp _ _ _,q| .mp _,q=>rfl
 | .agg cs,q=>by simp only [tF,EU,put_selfL]
 | .tup cs,q=>by simp only [tF,EU,put_selfL]
 | .rptr cs o,q=>by simp only [tF,EU,put_selfL]
 | .clo f a b,q=>by simp only [tF,EU,List.append_assoc,put_selfL]
theorem put_selfL: ∀(v:List SV) (q:List xW),putL v (atsL v++q)=(v,q)
 | [],q=>rfl
 |x::xs,q=>by simp only [putL,atsL,List.append_assoc,KM,put_selfL]
end
theorem KN: ∀(v:List SB) (q:List xW),B5 v (LQ v++q)=(v,q)
 | [],q=>rfl
 |x::xs,q=>by
  have: ∀q,QQ x (WL x++q)=(x,q):=by
   intro q;cases x<;>first|rfl|simp only [QQ,WL,put_selfL]
  simp only [B5,LQ,List.append_assoc,this,KN]
theorem KO: ∀(v:SE) (q:List xW),N0 v (U3 v++q)=(v,q)
 | [],q=>rfl
 |(t,x)::xs,q=>by simp only [N0,U3,List.append_assoc,KM,KO]
theorem Q1 (st:qF):A4 st (xQ st)=st:=by
 have hs:=KN st.sto [];rw [List.append_nil] at hs;simp only [A4,xQ,KO,hs]
theorem VC {cx:VU} {inl:ZR} (hcx:jY F cx) (hinl:OF F inl): ∀(c:fT) (R':Type) {st:qF} {p:St} {k:gA->qF->iC R'} {ρ:Type} {w:R'->ρ} {y:ρ} {Q:R'->gA->St->Prop},
 (∀e st p ρ (w:R'->ρ) y,A7 st p->k e st ρ w=some y-> ∃r,y=w r/\Q r e p)->A7 st p->DA cx inl c R' st k ρ w=some y-> ∃r,y=w r/\WP F c p (Q r):=by
 intro c
 induction c with
 |skip=>
  intro R' st p k ρ w y Q hk h he;obtain ⟨r,hr,hq⟩:=hk _ _ _ _ _ _ h he;exact ⟨r,hr,WP.skip hq⟩
 |ret=>
  intro R' st p k ρ w y Q hk h he;obtain ⟨r,hr,hq⟩:=hk _ _ _ _ _ _ h he;exact ⟨r,hr,WP.ret hq⟩
 |exit id=>
  intro R' st p k ρ w y Q hk h he;obtain ⟨r,hr,hq⟩:=hk _ _ _ _ _ _ h he;exact ⟨r,hr,WP.exit hq⟩
 |region d ops keep=>
  intro R' st p k ρ w y Q hk h he;simp only [DA] at he;have fin: ∀st p ρ (w:R'->ρ) y,A7 st p->N2 st.env keep (fun e=>k .normal {st with env:=e}) ρ w=some y-> ∃r,y=w r/\Q r .normal (qD keep p):=by
   intro st p ρ w y h he
   have:=IK he
   have hR:A7 {st with env:=keep.map fun t=>(t,JN t st.env)} (qD keep p):=⟨XK h.env keep,h.sto,h.fz,h.kn⟩
   exact hk _ _ _ _ _ _ hR this
  cases d with
  |none=>
   obtain ⟨r,hr,hwo⟩:=wH hcx hinl ops (Q:=fun r s _=>Q r .normal (qD keep s)) (fun st p tr ρ w y h he=>fin st p ρ w y h he) h he
   exact ⟨r,hr,WP.region hwo⟩
  |some bf=>
   obtain ⟨r,hr,hwo⟩:=wH hcx hinl ops (Q:=fun r s t=>rH 0 (t.reverse.zip bf)=true/\Q r .normal (qD keep s)) (fun st p tr ρ w y h he=>by
    dsimp only at he;cases ho:rH 0 (tr.reverse.zip bf) with
    |false=>rw [ho] at he;cases he
    |true=>
     rw [ho] at he;obtain ⟨r,hr,hq⟩:=fin st p ρ w y h he;exact ⟨r,hr,ho,hq⟩) h he
   exact ⟨r,hr,WP.regionD hwo⟩
 |seq a b iha ihb=>
  intro R' st p k ρ w y Q hk h he;simp only [DA] at he;obtain ⟨r,hr,hwp⟩:=iha R' (Q:=fun r=>GC (fun s=>WP F b s (Q r)) (Q r)) (fun e st p ρ w y h he=>by
   cases e with
   |normal=>exact ihb R' hk h he
   |exit i=>exact hk _ _ _ _ _ _ h he
   |ret=>exact hk _ _ _ _ _ _ h he) h he
  exact ⟨r,hr,WP.seq hwp⟩
 |cond c a b iha ihb=>
  intro R' st p k ρ w y Q hk h he;simp only [DA] at he;have hx:=dK h.env c;generalize bK st.env c=v at he hx;cases v with
  |bool x=>
   rcases dU he with ⟨rfl,he⟩|⟨rfl,he⟩
   · obtain ⟨r,hr,hwp⟩:=iha R' hk h he
     exact ⟨r,hr,WP.condT hx hwp⟩
   · obtain ⟨r,hr,hwp⟩:=ihb R' hk h he
     exact ⟨r,hr,WP.condF hx hwp⟩
  |_=>cases he
 |block id b ih=>
  intro R' st p k ρ w y Q hk h he;simp only [DA] at he;obtain ⟨r,hr,hwp⟩:=ih R' (Q:=fun r=>inBlock id (Q r)) (fun e st p ρ w y h he=>by
   cases e with
   |normal=>exact hk _ _ _ _ _ _ h he
   |ret=>exact hk _ _ _ _ _ _ h he
   |exit j=>
    dsimp only at he;cases hj:Nat.beq j id with
    |true=>
     rw [hj] at he;obtain ⟨r,hr,hq⟩:=hk _ _ _ _ _ _ h he;have hji:=Nat.eq_of_beq_eq_true hj;exact ⟨r,hr,by simpa [inBlock,hji] using hq⟩
    |false=>
     rw [hj] at he;obtain ⟨r,hr,hq⟩:=hk _ _ _ _ _ _ h he
     have:j≠id:=by intro e;subst e;simp at hj
     exact ⟨r,hr,by simpa [inBlock,this] using hq⟩) h he
  exact ⟨r,hr,WP.block hwp⟩
 |loop live b ih=>
  intro R' st p k ρ w y Q hk h he;simp only [DA] at he;cases hn:HS cx.rk live st with
  |none=>rw [hn] at he;cases he
  |some st1=>
   rw [hn] at he;dsimp only at he;have ksK_eq: ∀{β:Type 1} (l:List AK) (c:List AK->β),ksK l c=c l:=by
    intro β l;have rK_eq: ∀{β:Type 1} (l:List PT) (c:List PT->β),rK l c=c l:=by
     intro β l
     induction l with
     |nil=>intro c;rfl
     |cons p r ih=>intro c;cases p<;>simp only [rK,ptK,ih]
    induction l with
    |nil=>intro c;rfl
    |cons a r ih=>intro c;cases a<;>simp only [ksK,rK_eq,ih]
   rw [ksK_eq] at he;generalize aGB (xQ st1)=ks at he;cases hp:qW ks (xQ st1) with
   |none=>rw [hp] at he;cases he
   |some y0=>
    rw [hp] at he;dsimp only at he;obtain ⟨p1,hp1,hR1⟩:=S5 h hn;have hlike: ∀(st3:qF) (y':jB ks),HU st1 st3=true->qW ks (xQ st3)=some y'->A4 st1 (lL ks y')=st3:=fun st3 y' h1 h2=>by
     rw [sC h2,VB h1]
    obtain ⟨n,hit⟩:=WE he;have h0:A7 (A4 st1 (lL ks y0)) p1:=by rw [sC hp,Q1];exact hR1
    clear he hp hn h hR1
    induction n generalizing y0 p p1 with
    |zero=>cases hit
    |succ n ihn=>
     have body: ∀zr,DA cx inl b (bH (jB ks) ρ) (A4 st1 (lL ks y0)) (fun e st2=>match e with
      | .normal=>match HS cx.rk live st2 with
       |some st3=>bif HU st1 st3 then (match qW ks (xQ st3) with
        |some y'=>J8 (.next y')
        |none=>aN) else aN
       |none=>aN
      |e=>fun ρ' w'=>k e st2 ρ' fun r=>w' (.done (w r))) (bH (jB ks) ρ) (fun z=>z)=some zr->
      WP F b p1 (fun e s=>match zr with
       | .next y'=>e= .normal/\ ∃p3,F4 live s=some p3/\A7 (A4 st1 (lL ks y')) p3
       | .done x=>e≠ .normal/\ ∃r,x=w r/\Q r e s):=by
      intro zr hbody;obtain ⟨zr',hzr,hwp⟩:=ih (bH (jB ks) ρ) (Q:=fun zr e s=>match zr with
       | .next y'=>e= .normal/\ ∃p3,F4 live s=some p3/\A7 (A4 st1 (lL ks y')) p3
       | .done x=>e≠ .normal/\ ∃r,x=w r/\Q r e s) (fun e st2 p2 ρ' w' y2 h2 he2=>by
       cases e with
       |normal=>
        dsimp only at he2;cases hn3:HS cx.rk live st2 with
        |none=>rw [hn3] at he2;cases he2
        |some st3=>
         rw [hn3] at he2;obtain ⟨hlk,he2⟩:=cJ he2;cases hp3:qW ks (xQ st3) with
         |none=>rw [hp3] at he2;cases he2
         |some y3=>
          rw [hp3] at he2;injection he2 with he2;obtain ⟨p3,hp3',hR3⟩:=S5 h2 hn3;exact ⟨.next y3,he2.symm,rfl,p3,hp3',by rw [hlike st3 y3 hlk hp3];exact hR3⟩
       |exit i=>
        obtain ⟨r,hr,hq⟩:=hk _ _ _ _ _ _ h2 he2;exact ⟨.done (w r),hr,(by intro e;cases e),r,rfl,hq⟩
       |ret=>
        obtain ⟨r,hr,hq⟩:=hk _ _ _ _ _ _ h2 he2;exact ⟨.done (w r),hr,(by intro e;cases e),r,rfl,hq⟩) h0 hbody
      subst hzr;exact hwp
     simp only [rB] at hit;split at hit
     · rename_i y' hbody
       obtain ⟨m,e,s,hrun,rfl,p3,hp3,hR3⟩:=body _ hbody;obtain ⟨r,hr,hwp⟩:=ihn y' p3 hp3 hit hR3;exact ⟨r,hr,WP.again hp1 ⟨m,.normal,s,hrun,hwp⟩⟩
     · rename_i x hbody
       injection hit with hit;obtain ⟨m,e,s,hrun,hne,r,hr,hq⟩:=body _ hbody;refine ⟨r,by rw [<- hit];exact hr,WP.again hp1 ⟨m,e,s,hrun,?_⟩⟩
       cases e with
       |normal=>exact absurd rfl hne
       |exit i=>exact hq
       |ret=>exact hq
     · cases hit
end
end Go.Vm
/- Contracts from the typed machine. -/
namespace Go.Vm
section
variable {F : lX} {cx : VU} {inl : ZR}
theorem OH {s:List SB}: ∀{l:List SV} {q:List PV} (i:Nat),RL s l q->dB s (QT i l) (uQ i q)
 | [],q,i,h=>by rw [show q=[] from h];rfl
 |x::xs,q,i,h=>by
  obtain ⟨a,as,rfl,h1,h2⟩:=h.cons_inv;exact ⟨a,uQ (i+1) as,rfl,h1,OH (i+1) h2⟩
theorem XL {st:qF} {p:St} (h:A7 st p) {r:RV} {v:SV} (hr:QS st r=some v): ∃q,GW p r=some q/\R st.sto v q:=by
 cases r with
 |tmp t=>injection hr with hr;subst hr;exact ⟨_,rfl,h.env.lk t⟩
 |cell t agg=>
  simp only [QS] at hr;have hlk:=h.env.lk t;split at hr
  · rename_i u n off hv
    rw [hv] at hlk;rw [cC] at hr;split at hr
    · rename_i cs hst
      obtain ⟨q,h1,h2⟩:=h.sto.box hst;obtain ⟨x,h3,h4⟩:=tO h2 hr;refine ⟨x,?_,h4⟩;simp only [GW,show lk t p.env=_ from hlk,oE,h1,Nat.beq_refl,if_true,h3];rfl
    · cases hr
  · rename_i cs off hv
    rw [hv] at hlk;obtain ⟨q,h1,h2⟩:=hlk;obtain ⟨x,h3,h4⟩:=tO h2 hr;refine ⟨x,?_,h4⟩;simp only [GW,h1,oE,h3];rfl
  · cases hr
theorem KP {st:qF} {p:St} (h:A7 st p): ∀{l:List RV} {vs:List SV},zT st l=some vs-> ∃q,mY p l=some q/\RL st.sto vs q
 | [],vs,hr=>by injection hr with hr;subst hr;exact ⟨[],rfl,rfl⟩
 |r::l,vs,hr=>by
  simp only [zT] at hr;split at hr
  · rename_i v vs' h1 h2
    injection hr with hr;subst hr;obtain ⟨q,h3,h4⟩:=XL h h1;obtain ⟨qs,h5,h6⟩:=KP h h2;exact ⟨q::qs,by simp only [mY,h3,h5],RL.cons h4 h6⟩
  · cases hr
theorem OI {s:List SB} {vs:List SV} {q:List PV} (h:RL s vs q):R s (EV vs) (pZ q):=by
 match vs,q,h with
 | [],q,h=>rw [show q=[] from h];exact ⟨[],rfl,rfl⟩
 | [v],q,h=>
  obtain ⟨a,as,rfl,h1,h2⟩:=h.cons_inv;rw [show as=[] from h2];exact h1
 |v::u::r,q,h=>
  have hall:=h;obtain ⟨a,as,rfl,h1,h2⟩:=h.cons_inv;obtain ⟨b,bs,rfl,h3,h4⟩:=h2.cons_inv;exact ⟨_,rfl,hall⟩
theorem yR (hcx:jY F cx) (hinl:OF F inl) {f:FuncId} {x:aI} (hf:F f=some (.code x)) {R':Type} {args:List SV} {s:List SB} {z:List Nat} {k:SV->List SB->List Nat->iC R'} {ρ:Type} {w:R'->ρ} {y:ρ} {pa:List PV} {ps:cL}
 {Q:R'->PV->cL->List Nat->Prop} (ha:RL s args pa) (hS:cM s ps) (he:N3 cx inl x R' args s z k ρ w=some y)
 (hk: ∀v s' z' p ps' ρ' (w':R'->ρ') y',R s' v p->cM s' ps'->k v s' z' ρ' w'=some y'-> ∃r,y'=w' r/\Q r p ps' z'): ∃r,y=w r/\GY F f pa ps z (fun p ps' z'=>Q r p ps' z'):=by
 unfold N3 at he;obtain ⟨hn,he⟩:=cJ he;have fin: ∀st p ρ' (w':R'->ρ') y',A7 st p->(match zT st x.res with
  |some vs=>k (EV vs) st.sto st.fz
  |none=>aN) ρ' w'=some y'-> ∃r,y'=w' r/\ ∃vs,mY p x.res=some vs/\Q r (pZ vs) p.sto p.fz:=by
  intro st p ρ' w' y' h he;cases hr:zT st x.res with
  |none=>rw [hr] at he;cases he
  |some vs=>
   rw [hr] at he;obtain ⟨q,h1,h2⟩:=KP h hr;obtain ⟨r,h3,h4⟩:=hk _ _ _ _ _ _ _ _ (OI h2) h.sto he;exact ⟨r,h3,q,h1,by rw [h.fz];exact h4⟩
 obtain ⟨r,hr,hwp⟩:=VC hcx hinl x.code R' (Q:=fun r=>K8 x fun p ps' z'=>Q r p ps' z') (p:={env:=uQ 0 pa,sto:=ps,fz:=z,kn:=ps.length}) (fun e st p ρ' w' y' h he=>by
  cases e with
  |normal=>exact fin st p ρ' w' y' h he
  |ret=>exact fin st p ρ' w' y' h he
  |exit i=>cases he) ⟨OH 0 ha,hS,rfl,hS.len⟩ he
 exact ⟨r,hr,GY.of hf (by rw [ha.length];exact hn) hwp⟩
theorem LZ (hcx:jY F cx): ∀n,OF F (WR cx n)
 |0=>fun f args s z R' k ρ w y pa ps Q _ _ h _=>by cases h
 |n+1=>fun f args s z R' k ρ w y pa ps Q ha hS h hk=>by
  simp only [WR] at h;cases hx:cx.code f with
  |none=>rw [hx] at h;cases h
  |some x=>
   rw [hx] at h;exact yR hcx (LZ hcx n) (hcx.code f x hx) ha hS h hk
def Z6:Kd->Bool->Bool
 | .own,b=>b
 |_,b=>!b
def XM (kd:Kd) {β:Type} (res:aG β) (b:β) (p:PV) (ps:cL) (z:List Nat):Prop:=
 match kd with
 | .pure=>p.noref=true/\sA (res.enc b)=some p
 | .frz=>p.noref=false/\ ∃q,zM ps p=some q/\sA (res.enc b)=some q
 | .own=> ∀nx,∃p0 p' q seen,AV ps z nx [] p=some (p',q,seen)/\sA (res.enc b)=some p0/\IH nx p0=some (p',q)
mutual
theorem OJ {s:List SB}: ∀{v:SV} {p:PV},R s v p->B4 v=true->sA v=some p
 | .int _ _,p,h,_| .bool _,p,h,_| .str _,p,h,_=>by rw [show p=_ from h];rfl
 | .agg cs,p,h,hn=>by obtain ⟨q,rfl,h⟩:=h;simp only [sA,pure_pvL h hn]
 | .tup cs,p,h,hn=>by obtain ⟨q,rfl,h⟩:=h;simp only [sA,pure_pvL h hn]
 | .junk,_,_,h| .undef,_,_,h| .nul,_,_,h| .nilf,_,_,h| .sl _ _,_,_,h| .nil _ _,_,_,h| .own _ _,_,_,h| .pre _ _ _ _,_,_,h| .part _ _ _ _ _,_,_,h| .pa _ _ _ _ _,_,_,h| .pb _ _ _,_,_,h| .bp _ _ _,_,_,h| .rptr _ _,_,_,h| .clo _ _ _,_,_,h| .mp _,_,_,h=>by cases h
theorem pure_pvL {s:List SB}: ∀{v:List SV} {p:List PV},RL s v p->norefSL v=true->pvL v=some p
 | [],p,h,_=>by rw [show p=_ from h];rfl
 |x::xs,p,h,hn=>by
  obtain ⟨a,as,rfl,h1,h2⟩:=h.cons_inv;simp only [norefSL,Bool.and_eq_true] at hn;exact dJ.2 ⟨_,_,rfl,OJ h1 hn.1,pure_pvL h2 hn.2⟩
end
theorem Q2 {kd:Kd} {β:Type} {res:aG β} {v:SV} {s:List SB} {z:List Nat} {p:PV} {ps:cL} {ρ:Type} {w:β->ρ} {y:ρ} (hv:R s v p) (hS:cM s ps) (h:WT kd res v s z ρ w=some y):
 ∃b,y=w b/\XM kd res b p ps z:=by
 unfold WT at h;cases kd with
 |pure=>
  dsimp only at h;obtain ⟨h1,h2⟩:=cJ h;obtain ⟨b,h3,h4⟩:=bI h2;injection h4 with h4;exact ⟨b,h4.symm,OD hv h1,res.law h3 (OJ hv h1)⟩
 |frz=>
  dsimp only at h;obtain ⟨h1,h2⟩:=vA h;obtain ⟨u,h3,h4⟩:=bI h2;obtain ⟨b,h5,h6⟩:=bI h4;injection h6 with h6;obtain ⟨q,h7,h8⟩:=aGk hS hv h3;exact ⟨b,h6.symm,KI hv h1 h3,q,h7,res.law h5 h8⟩
 |own=>
  dsimp only at h;obtain ⟨u,h3,h4⟩:=bI h;obtain ⟨b,h5,h6⟩:=bI h4;injection h6 with h6;refine ⟨b,h6.symm,fun nx=>?_⟩
  obtain ⟨p0,p',q,h7,h8,h9⟩:=XG hS (v':=u.1) (seen':=u.2) nx hv h3;exact ⟨p0,p',q,u.2,h9,res.law h5 h7,h8⟩
theorem cM.nil:cM [] []:=⟨rfl,fun t b h=>by simp at h⟩
theorem aF.of {f:FuncId} {x:aI} {α β:Type} {args:aB α} {res:aG β} {kd:Kd} {fn:α->Option β} {ow:Bool} (hf:F f=some (.code x)) (ho:Z6 kd ow=true) (hcx:jY F cx)
 (h: ∀a,aGh cx x args res kd a=fn a):aF F f ⟨args,res,fn,kd,ow⟩:=by
 intro a b as pa sto fz hb hpa hex;have hb:fn a=some b:=hb;rw [<- h a] at hb;obtain ⟨r,hr,n,v,s,z,hrun,hl⟩:=yR hcx (LZ hcx 8) hf (Q:=fun r p ps z=>XM kd res r p ps z) (pvL_R hpa) cM.nil hb (fun v s' z' p ps' ρ' w' y' hv hS hk=>Q2 hv hS hk)
 have hr':b=r:=hr;subst hr';cases kd with
 |pure=>
  obtain ⟨h1,h2⟩:=hl;have how:ow=false:=by simpa [Z6] using ho
  subst how;refine ⟨n,{v:=v,rd:=toksL (cU sto dN) as},?_,v,h2,rfl⟩;simp only [callPure,hex,hf,hrun,Bool.false_eq_true,if_false,h1,if_true]
 |frz=>
  obtain ⟨h1,q,h2,h3⟩:=hl;have how:ow=false:=by simpa [Z6] using ho
  subst how;refine ⟨n,{v:=q,rd:=toksL (cU sto dN) as,fr:=toksL (cU sto dN) as},?_,q,h3,rfl⟩;simp only [callPure,hex,hf,hrun,Bool.false_eq_true,if_false,h1,h2]
 |own=>
  have how:ow=true:=ho;subst how;obtain ⟨p0,p',q,seen,h1,h2,h3⟩:=hl sto.length;refine ⟨n,{v:=p',news:=q,rd:=toksL (cU sto dN) as},?_,p0,p',q,h2,h3,rfl⟩;simp only [callPure,hex,hf,hrun,if_true,h1]
theorem OK: ∀(s:List SB) (q:List xW),(B5 s q).1.length=s.length
 | [],q=>rfl
 |b::r,q=>by simp only [B5,List.length_cons,OK r]
mutual
theorem R.take {s:List SB} {k:Nat}: ∀{v:SV} {p:PV},R s v p->(∀t∈SS tD v,t<k)->R (s.take k) v p
 | .junk,_,_,_=>trivial
 | .undef,_,h,_| .nul,_,h,_| .nilf,_,h,_| .int _ _,_,h,_| .bool _,_,h,_| .str _,_,h,_| .sl _ _,_,h,_| .nil _ _,_,h,_| .bp _ _ _,_,h,_| .mp _,_,h,_=>h
 | .agg cs,_,h,ht=>by obtain ⟨q,rfl,h⟩:=h;exact ⟨q,rfl,RL.takeS h ht⟩
 | .tup cs,_,h,ht=>by obtain ⟨q,rfl,h⟩:=h;exact ⟨q,rfl,RL.takeS h ht⟩
 | .rptr cs o,_,h,ht=>by obtain ⟨q,rfl,h⟩:=h;exact ⟨q,rfl,RL.takeS h ht⟩
 | .clo f a b,_,h,ht=>by
  obtain ⟨pa,pb,rfl,h1,h2⟩:=h;exact ⟨pa,pb,rfl,RL.takeS h1 (fun t h=>ht t (List.mem_append_left _ h)),RL.takeS h2 (fun t h=>ht t (List.mem_append_right _ h))⟩
 | .own t ex,_,h,ht=>by
  obtain ⟨e,n,rfl,hat⟩:=h;have hk:=ht t (List.mem_singleton.2 rfl);refine ⟨e,n,rfl,?_⟩;rcases hat with ⟨r,l,h1,h2,h3⟩|h1
  · exact .inl ⟨r,l,by rw [List.getElem?_take_of_lt hk];exact h1,h2,h3⟩
  · exact .inr (by rw [List.getElem?_take_of_lt hk];exact h1)
 | .pre t a b c,_,h,ht=>by
  obtain ⟨e,rfl,hat⟩:=h;have hk:=ht t (List.mem_singleton.2 rfl);refine ⟨e,rfl,?_⟩;rcases hat with ⟨r,l,h1,h2⟩|h1
  · exact .inl ⟨r,l,by rw [List.getElem?_take_of_lt hk];exact h1,h2⟩
  · exact .inr (by rw [List.getElem?_take_of_lt hk];exact h1)
 | .part t o a b c,_,h,ht=>by
  obtain ⟨e,rfl,hat⟩:=h;have hk:=ht t (List.mem_singleton.2 rfl);refine ⟨e,rfl,?_⟩;rcases hat with ⟨r,l,h1,h2⟩|h1
  · exact .inl ⟨r,l,by rw [List.getElem?_take_of_lt hk];exact h1,h2⟩
  · exact .inr (by rw [List.getElem?_take_of_lt hk];exact h1)
 | .pa t r i a o,_,h,ht=>by
  obtain ⟨rfl,hat⟩:=h;have hk:=ht t (List.mem_cons_self ..);refine ⟨rfl,?_⟩;rcases hat with ⟨l,h1,h2⟩|h1
  · exact .inl ⟨l,by rw [List.getElem?_take_of_lt hk];exact h1,h2⟩
  · exact .inr (by rw [List.getElem?_take_of_lt hk];exact h1)
 | .pb t i o,_,h,ht=>by
  obtain ⟨e,rfl,hat⟩:=h;have hk:=ht t (List.mem_cons_self ..);refine ⟨e,rfl,?_⟩;rcases hat with ⟨r,l,h1,h2⟩|h1
  · exact .inl ⟨r,l,by rw [List.getElem?_take_of_lt hk];exact h1,h2⟩
  · exact .inr (by rw [List.getElem?_take_of_lt hk];exact h1)
theorem RL.takeS {s:List SB} {k:Nat}: ∀{v:List SV} {p:List PV},RL s v p->(∀t∈tkVL tD v,t<k)->RL (s.take k) v p
 | [],_,h,_=>h
 |x::xs,_,h,ht=>by
  obtain ⟨a,as,rfl,h1,h2⟩:=h.cons_inv;exact RL.cons (R.take h1 (fun t h=>ht t (List.mem_append_left _ h))) (RL.takeS h2 (fun t h=>ht t (List.mem_append_right _ h)))
end
theorem IL {R' ρ:Type} {w:R'->ρ} {y:ρ}: ∀{s s':List SB} {k:iC R'},FP s s' k ρ w=some y->k ρ w=some y/\s'.length=s.length/\ ∀(t:Nat) (x z:SB),s[t]? =some x->s'[t]? =some z->XI x z
 | [],[],k,h=>⟨h,rfl,fun t x z h=>by simp at h⟩
 | [],_::_,k,h=>by cases h
 |_::_,[],k,h=>by cases h
 |x::xs,y'::ys,k,h=>by
  have step: ∀(_:FP xs ys k ρ w=some y) (_:XI x y'),k ρ w=some y/\(y'::ys).length=(x::xs).length/\ ∀(t:Nat) (a b:SB),(x::xs)[t]? =some a->(y'::ys)[t]? =some b->XI a b:=by
   intro h hx;obtain ⟨h1,h2,h3⟩:=IL h;refine ⟨h1,by simpa using h2,fun t a b ha hb=>?_⟩
   cases t with
   |zero=>simp at ha hb;subst ha hb;exact hx
   |succ t=>exact h3 t a b (by simpa using ha) (by simpa using hb)
  cases x with
  |arr r l=>
   cases y' with
   |arr q m=>
    obtain ⟨hr,h2⟩:=cJ (a:=fK (m.length==l.length) (FP xs ys k) aN) h;obtain ⟨hl,h3⟩:=gF h2;exact step h3 ⟨uZ hr,by simpa using hl⟩
   |_=>cases h
  |dead=>cases y' with
   |dead=>exact step h trivial
   |_=>cases h
  |box cs=>cases y' with
   |box _=>exact step h trivial
   |_=>cases h
  |set l=>cases y' with
   |set _=>exact step h trivial
   |_=>cases h
theorem IM: ∀{s:List SB},HV s=true-> ∀(t:Nat) (b:SB),s[t]? =some b->zS b=true
 | [],_,t,b,h=>by simp at h
 |x::xs,hs,0,b,h=>by simp only [HV,Bool.and_eq_true] at hs;simp at h;subst h;exact hs.1
 |x::xs,hs,t+1,b,h=>by simp only [HV,Bool.and_eq_true] at hs;exact IM hs.2 t b (by simpa using h)
theorem jS.of {f:FuncId} {x:aI} {wd:Bool} {ka ko:List AK} {ta:List SV} {tb to:List SB} {tv:SV} {fn:jB ka->Option (jB ko)} (hf:F f=some (.code x)) (hcx:jY F cx)
 (h: ∀a,aNF wd cx x ka ta tb ko tv to a=fn a):jS F f ⟨ka,ta,tb,ko,tv,to,fn⟩:=by
 intro a b pa ps hb ha hS;rw [show (⟨ka,ta,tb,ko,tv,to,fn⟩:dA).fn a=fn a from rfl,<- h a] at hb;have hlen:(dA.sa ⟨ka,ta,tb,ko,tv,to,fn⟩ a).length=tb.length:=OK _ _;obtain ⟨r,hr,n,v,s,z,hrun,hz,hq⟩:=yR hcx (LZ hcx 8) hf (Q:=fun (r:jB ko) p ps' z'=>z'=[]/\gE tb.length p ps'=true/\
  R (dA.sb ⟨ka,ta,tb,ko,tv,to,fn⟩ r) (dA.vb ⟨ka,ta,tb,ko,tv,to,fn⟩ r) p/\cM (dA.sb ⟨ka,ta,tb,ko,tv,to,fn⟩ r) (ps'.take tb.length)/\
  (dA.sb ⟨ka,ta,tb,ko,tv,to,fn⟩ r).length=(dA.sa ⟨ka,ta,tb,ko,tv,to,fn⟩ a).length/\
  ∀(t:Nat) (x y:SB),(dA.sa ⟨ka,ta,tb,ko,tv,to,fn⟩ a)[t]? =some x->(dA.sb ⟨ka,ta,tb,ko,tv,to,fn⟩ r)[t]? =some y->XI x y) ha hS hb (fun v s' z' p ps' ρ' w' y' hv hS' hk=>by
  cases z' with
  |cons _ _=>cases hk
  |nil=>
   dsimp only at hk;obtain ⟨hc,hk⟩:=cJ hk;simp only [Bool.and_eq_true] at hc;obtain ⟨⟨⟨⟨c1,c2⟩,c3⟩,c4⟩,c5⟩:=hc;obtain ⟨hk,f1,f2⟩:=IL hk;obtain ⟨r,hr,hk⟩:=bI hk;injection hk with hk;have hu:R s' (bif wd then J9 s' v else v) p:=by
    cases wd with
    |true=>exact S3 hv
    |false=>exact hv
   generalize (bif wd then J9 s' v else v)=u at c1 c3 c4 hr hu
   have hats:=sC hr;have hvb:dA.vb ⟨ka,ta,tb,ko,tv,to,fn⟩ r=u:=by
    show (tF tv (lL ko r)).1=u;rw [hats,GH _ c1]
   have hsb:dA.sb ⟨ka,ta,tb,ko,tv,to,fn⟩ r=s'.take tb.length:=by
    show (B5 to (tF tv (lL ko r)).2).1=_;rw [hats,GH _ c1]
    have:=DL [] c2
    rw [List.append_nil] at this;rw [this]
   have hle:tb.length<=s'.length:=by
    have:=f1
    rw [List.length_take] at this;have h2:(dA.sa ⟨ka,ta,tb,ko,tv,to,fn⟩ a).length=tb.length:=hlen;have h3:min tb.length s'.length=tb.length:=by rw [this];exact h2
    omega
   unfold aGg at c3;rw [List.all_eq_true] at c3;have hkv: ∀t∈SS tD u,t<tb.length:=fun t ht=>by simpa using c3 t (List.mem_append_left _ ht)
   have hkb: ∀b∈s'.take tb.length,∀t∈HN b,t<tb.length:=fun b hb t ht=>by simpa using c3 t (List.mem_append_right _ (List.mem_flatMap.2 ⟨b,hb,ht⟩))
   have hsto:cM (s'.take tb.length) (ps'.take tb.length):=⟨by simp [hS'.len],fun t x hx=>by
    have hlt:t<tb.length:=by
     have:=(List.getElem?_eq_some_iff.1 hx).1
     rw [List.length_take] at this;omega
    have hx':=hx;rw [List.getElem?_take_of_lt hlt] at hx';obtain ⟨q,q1,q2⟩:=hS'.at_ t x hx';refine ⟨q,by rw [List.getElem?_take_of_lt hlt];exact q1,?_⟩
    cases x with
    |box cs=>
     obtain ⟨pc,rfl,hpc⟩:=q2;exact ⟨pc,rfl,RL.takeS hpc (hkb _ (List.mem_of_getElem? hx))⟩
    |_=>exact q2⟩
   refine ⟨r,hk.symm,rfl,?_,by rw [hvb,hsb];exact R.take hu hkv,by rw [hsb];exact hsto,by rw [hsb];exact f1,by rw [hsb];exact f2⟩
   unfold gE;rw [List.all_eq_true];intro t ht;rw [List.mem_append] at ht;rcases ht with ht|ht
   · rw [<- XB (bx:=tD) (fun _=>rfl) hu c4] at ht
     simpa using hkv t ht
   · rw [List.mem_flatMap] at ht
     obtain ⟨q,hq,ht⟩:=ht;obtain ⟨j,hj,he⟩:=List.getElem_of_mem hq;have hjl:j<(s'.take tb.length).length:=by rw [<- hsto.len];exact hj
     obtain ⟨x,hx⟩: ∃x,(s'.take tb.length)[j]? =some x:=⟨_,List.getElem?_eq_getElem hjl⟩;obtain ⟨q',q1,q2⟩:=hsto.at_ j x hx;rw [List.getElem?_eq_getElem hj,he] at q1;injection q1 with q1;subst q1;rw [<- LV q2 (IM c5 j x hx)] at ht;simpa using hkb x (List.mem_of_getElem? hx) t ht)
 have hr':b=r:=hr;subst hr';subst hz;refine ⟨n,v,s,hrun,?_⟩;rw [hlen];obtain ⟨h1,h2,h3,h4,h5⟩:=hq;exact ⟨h1,h2,h3,by rw [h4,hlen],h5⟩
theorem Q3 {f:FuncId} {r:List PT} (hf:F f=some (.prim false (dZ r.length))) (l:List (RT r)) (hl:l.length<=1048576) {as:List PV} {sto:cL} {fz:List Nat} (hex:exL sto (xX sto dN) as=some [.sl r.length false (l.map (RT.pv r))]):
 ∃n x,callPure F (run F n) false f as sto fz=some x/\aGl .own sto.length (toksL (cU sto dN) as) (.sl r l) x:=by
 refine ⟨0,{v:= .own sto.length r.length 0 l.length l.length false,news:=[.arr r.length (l.map (RT.pv r))],rd:=toksL (cU sto dN) as},?_,.sl r.length false (l.map (RT.pv r)),.own sto.length r.length 0 l.length l.length false,[.arr r.length (l.map (RT.pv r))],rfl,by simp only [IH,List.length_map],rfl⟩
 simp only [callPure,hex,hf];cases l with
 |nil=>rfl
 |cons a l=>
  have h2:Nat.ble ((l.map (RT.pv r)).length+1) tC=true:=by simp [tC] at hl ⊢;omega
  simp only [List.map_cons,dZ,Nat.beq_refl,h2,Bool.and_self,if_true,AV];simp [has]
theorem aF.clone {f:FuncId} {n:Nat} {r:List PT} (hf:F f=some (.prim false (dZ n))) (hn:n=r.length):aF F f (bF.clone r):=by
 intro (a:List (RT r)) (b:List (RT r)) as pa sto fz hb hpa hex;subst hn;have hb:cG a=some b:=hb;obtain ⟨rfl,hl⟩:=B9 hb;have hpa':pa=[.sl r.length false (b.map (RT.pv r))]:=by
  have:some [PV.sl r.length false (b.map (RT.pv r))]=some pa:=hpa
  exact (Option.some.inj this).symm
 subst hpa';exact Q3 hf b hl hex
theorem aF.add64 {f:FuncId} (hf:F f=some (.prim false BV)):aF F f bF.add64:=by
 intro a b as pa sto fz hb hpa hex;obtain ⟨x,y,c⟩:=a;have hb':oQ x y c=some b:=hb;unfold oQ at hb';cases hc:(decide (0<=x)&&decide (0<=y)&&decide (0<=c)&&decide (c<=1)) with
 |false=>rw [hc] at hb';cases hb'
 |true=>
  rw [hc] at hb';injection hb' with hb';subst hb';simp only [Bool.and_eq_true,decide_eq_true_eq] at hc;obtain ⟨⟨⟨h1,h2⟩,h3⟩,h4⟩:=hc;obtain ⟨x,rfl⟩:=Int.eq_ofNat_of_zero_le h1;obtain ⟨y,rfl⟩:=Int.eq_ofNat_of_zero_le h2;obtain ⟨c,rfl⟩:=Int.eq_ofNat_of_zero_le h3;have hpa':pa=[.int .u64 (.ofNat x),.int .u64 (.ofNat y),.int .u64 (.ofNat c)]:=by
   have:some [PV.int .u64 (x:Int),.int .u64 (y:Int),.int .u64 (c:Int)]=some pa:=hpa
   exact (Option.some.inj this).symm
  subst hpa';have hcb:Nat.ble c 1=true:=by simp;omega
  refine ⟨0,{v:= .tup [.int .u64 (.ofNat ((x+y+c)%18446744073709551616)),.int .u64 (.ofNat ((x+y+c) / 18446744073709551616))],rd:=toksL (cU sto dN) as},?_,_,rfl,rfl⟩;show callPure F (run F 0) false f as sto fz=_;simp only [callPure,hex,hf,BV,hcb,if_true];rfl
theorem jS.zero {f:FuncId} {c:dA} (h: ∀a,c.fn a=none):jS F f c:=fun a b pa ps hb=>by rw [h a] at hb;cases hb
theorem aF.zero {f:FuncId} {c:bF} (h: ∀a,c.fn a=none):aF F f c:=fun a b as pa sto fz hb=>by rw [h a] at hb;cases hb
end
end Go.Vm
/- What comes in to a law, as typed values; a law from a contract. -/
namespace Go.Vm
open Go.ChangeShapes Go.WideShapes Go.ChangeAt Go.RowKit
def PT.wf:(p:PT)->p.T->Prop
 | .i k,n=>(Lit.int k n).wf=true
 | .b,_=>True
def RT.wf:(r:List PT)->RT r->Prop
 | [],_=>True
 | [p],a=>p.wf a
 |p::q::r,a=>p.wf a.1/\RT.wf (q::r) a.2
def fU (r:List PT) (vs:List SV):Prop:= ∃a:RT r,vs=RT.sv r a/\RT.wf r a
def P6 (r:List PT) (vs:List SV):Prop:= ∃l:List (RT r),vs=[.sl r l]/\ ∀a∈l,RT.wf r a
def Z7:List (List SV->Prop)->List SV->Prop
 | [],vs=>vs=[]
 |K::Ks,vs=> ∃a b,vs=a++b/\K a/\Z7 Ks b
theorem fU.cons {p:PT}: ∀{r:List PT} {a b:List SV},fU [p] a->fU r b->fU (p::r) (a++b)
 | [],a,b,⟨x,hx,wx⟩,⟨y,hy,_⟩=>⟨x,by rw [hx,hy];rfl,wx⟩
 |q::r,a,b,⟨x,hx,wx⟩,⟨y,hy,wy⟩=>⟨(x,y),by rw [hx,hy];rfl,wx,wy⟩
theorem fU.split {p q:PT} {r:List PT} {vs:List SV}:fU (p::q::r) vs-> ∃a b,vs=a++b/\fU [p] a/\fU (q::r) b
 |⟨x,hx,wx⟩=>⟨[p.sv x.1],RT.sv (q::r) x.2,hx,⟨x.1,rfl,wx.1⟩,⟨x.2,rfl,wx.2⟩⟩
theorem fU.app: ∀{r s:List PT} {a b:List SV},fU r a->fU s b->fU (r++s) (a++b)
 | [],s,a,b,⟨x,hx,_⟩,h=>by
  have:a=[]:=hx
  subst this;exact h
 | [p],s,a,b,h,k=>fU.cons h k
 |p::q::r,s,a,b,h,k=>by
  obtain ⟨a1,a2,rfl,h1,h2⟩:=fU.split h
  rw [List.append_assoc];exact fU.cons h1 (fU.app h2 k)
theorem mJ: ∀{rs:List (List PT)} {vs:List SV},Z7 (rs.map fU) vs->fU rs.flatten vs
 | [],vs,h=>by
  have:vs=[]:=h
  subst this;exact ⟨(),rfl,trivial⟩
 |r::rs,vs,⟨a,b,h1,h2,h3⟩=>by
  subst h1;rw [List.flatten_cons];exact fU.app h2 (mJ h3)
def bU (P : Program) (t : TypeId) (K : List SV -> Prop) : Prop :=
  ∀ (H : Type) (enc : TypeId × Value -> H) (w : World) (fuel : Nat) (cs : List Value) (x : DataW H × List MemPlace), DataW.trod enc P w 0 (fun _ => true) true fuel t cs = some x ->
    ∃ vs q, K vs /\ pvL vs = some q /\ VRL (JQ w) eZ q cs
section
variable {P : Program}
theorem bU.mono {t:TypeId} {K K':List SV->Prop} (h:bU P t K) (hk: ∀vs,K vs->K' vs):bU P t K':=fun H enc w fuel cs x hx=>by
 obtain ⟨vs,q,h1,h2,h3⟩:=h H enc w fuel cs x hx;exact ⟨vs,q,hk vs h1,h2,h3⟩
theorem bU.int {t:TypeId} {k:IntKind} (ht:P.underlying t=some (.int k)):bU P t (fU [.i k]):=fun H enc w fuel cs x h=>by
 obtain ⟨n,rfl,_,hw⟩:=DataW.trod_int ht h;exact ⟨[.int k n],[.int k n],⟨n,rfl,hw⟩,rfl,.cons _ _ _ _ (.int k n) .nil⟩
theorem bU.bool {t:TypeId} (ht:P.underlying t=some .bool):bU P t (fU [.b]):=fun H enc w fuel cs x h=>by
 obtain ⟨b,rfl,_⟩:=DataW.trod_bool ht h;exact ⟨[.bool b],[.bool b],⟨b,rfl,trivial⟩,rfl,.cons _ _ _ _ (.bool b) .nil⟩
def aX (P:Program):List Field->List (List SV->Prop)->Nat->Prop
 | [],[],_=>True
 |f::fs,K::Ks,off=>f.offset=off/\bU P f.type K/\aX P fs Ks (off+P.cellsOf f.type)
 |_,_,_=>False
theorem aX.nil {off:Nat}:aX P [] [] off:=trivial
theorem aX.cons {f:Field} {fs:List Field} {K:List SV->Prop} {Ks:List (List SV->Prop)} {off:Nat} (h1:f.offset=off) (h2:bU P f.type K) (h3:aX P fs Ks (off+P.cellsOf f.type)):aX P (f::fs) (K::Ks) off:=⟨h1,h2,h3⟩
def yS (P:Program):List Field->Nat
 | []=>0
 |f::fs=>P.cellsOf f.type+yS P fs
theorem IN {im:Im} {loc:cT}: ∀{p:List PV} {vs:List Value} {q:List PV} {us:List Value},VRL im loc p vs->VRL im loc q us->VRL im loc (p++q) (vs++us)
 | [],[],_,_,.nil,h=>h
 |_::_,_::_,_,_,.cons x v xs ws h hs,k=> .cons x v _ _ h (IN hs k)
theorem IP {H:Type} {enc:TypeId×Value->H} {w:World} {n:Nat} {cs:List Value}: ∀{fs:List Field} {Ks:List (List SV->Prop)} {off:Nat},aX P fs Ks off->cs.length=off+yS P fs->
 (∀f∈fs,∃x,DataW.trod enc P w 0 (fun _=>true) true n f.type ((cs.drop f.offset).take (P.cellsOf f.type))=some x)-> ∃vs q,Z7 Ks vs/\pvL vs=some q/\VRL (JQ w) eZ q (cs.drop off)
 | [],[],off,_,hl,_=>⟨[],[],rfl,rfl,by rw [List.drop_eq_nil_of_le (by simp [yS] at hl;omega)];exact .nil⟩
 |f::fs,K::Ks,off,⟨h1,h2,h3⟩,hl,hx=>by
  obtain ⟨x,hx1⟩:=hx f (by simp)
  obtain ⟨vs,q,k1,k2,k3⟩:=h2 H enc w n _ x hx1;obtain ⟨vs',q',k1',k2',k3'⟩:=IP (n:=n) h3 (by simp only [yS] at hl;omega) (fun g hg=>hx g (by simp [hg]))
  refine ⟨vs++vs',q++q',⟨vs,vs',rfl,k1,k1'⟩,B6 k2 k2',?_⟩;rw [h1] at k3
  have:cs.drop off=(cs.drop off).take (P.cellsOf f.type)++cs.drop (off+P.cellsOf f.type):=by
   rw [<- List.drop_drop,List.take_append_drop]
  rw [this];exact IN k3 k3'
 | [],_::_,_,h,_,_=>h.elim
 |_::_,[],_,h,_,_=>h.elim
theorem bU.struct {t:TypeId} {fs:Array Field} {Ks:List (List SV->Prop)} (ht:P.underlying t=some (.struct fs)) (hF:aX P fs.toList Ks 0) (hc:P.cellsOf t=yS P fs.toList):bU P t (Z7 Ks):=fun H enc w fuel cs x h=>by
 obtain ⟨xs,n,rfl,_,hl,hxl,hall⟩:=DataW.trod_struct ht h
 have:=IP (P:=P) (enc:=enc) (w:=w) (n:=n) (cs:=cs) hF (by omega) (fun f hf=>by
  obtain ⟨i,hi,he⟩:=List.mem_iff_getElem.1 hf;have hi':i<fs.size:=by simpa using hi
  have hg:fs[i]? =some f:=by rw [Array.getElem?_eq_getElem hi'];simpa using he
  have:=hall i f hg
  rw [List.getElem?_eq_getElem (by omega)] at this
  exact ⟨_,this⟩)
 rwa [List.drop_zero] at this
theorem RT.vrl {r:List PT} {a:RT r} {q:List PV} (h:pvL (RT.sv r a)=some q):q=RT.pv r a:=by
 rw [RT.pv_sv] at h;exact (Option.some.inj h).symm
theorem VRL.nth {im:Im} {loc:cT}: ∀{p:List PV} {vs:List Value},VRL im loc p vs-> ∀(k:Nat) (c:PV),p[k]? =some c-> ∃v,vs[k]? =some v/\VR im loc c v
 |_::_,_::_,.cons x v xs ws h hs,0,c,hc=>by
  simp at hc;subst hc;exact ⟨v,by simp,h⟩
 |_::_,_::_,.cons x v xs ws h hs,k+1,c,hc=>by
  obtain ⟨u,h1,h2⟩:=VRL.nth hs k c (by simpa using hc)
  exact ⟨u,by simpa using h1,h2⟩
theorem bU.slice {t e:TypeId} {r:List PT} (ht:P.underlying t=some (.slice e)) (he:bU P e (fU r)) (hc:P.cellsOf e=r.length) (hr:0<r.length):bU P t (P6 r):=fun H enc w fuel cs x h=>by
 rcases Go.Deep.open_slice ht h with ⟨rfl,_⟩|⟨a,len,cap,m,n,D,Pl,rfl,_,hl,hm,hmm,_,hx⟩
 · exact ⟨[.sl r []],[.sl r.length false []],⟨[],rfl,by simp⟩,rfl,.cons _ _ _ _ (.sl r.length false [] none 0 (Nat.le_refl _) (fun h=>by cases h) (fun h=>absurd rfl h)) .nil⟩
 · have hm':len<=m:=by rw [hmm];split<;>omega
   have each: ∀i,i<len-> ∃A:RT r,RT.wf r A/\ ∃cs',w.cells? 0 (a.add (i*r.length)) r.length=some cs'/\VRL (JQ w) eZ (RT.pv r A) cs':=by
    intro i hi;obtain ⟨cs',h1,h2⟩:=hx i (by omega)
    obtain ⟨vs,q,⟨A,hA,wA⟩,k2,k3⟩:=he H enc w n cs' _ h2;subst hA;rw [RT.vrl k2] at k3;rw [hc] at h1;exact ⟨A,wA,cs',h1,k3⟩
   have ch: ∃A:Nat->RT r,∀i,i<len->RT.wf r (A i)/\ ∃cs',w.cells? 0 (a.add (i*r.length)) r.length=some cs'/\VRL (JQ w) eZ (RT.pv r (A i)) cs':=by
    classical
    refine ⟨fun i=>if h:i<len then (each i h).choose else RT.zero r,fun i hi=>?_⟩
    simp only [dif_pos hi];exact (each i hi).choose_spec
   obtain ⟨A,hA⟩:=ch;refine ⟨[.sl r ((List.range len).map A)],[.sl r.length false (((List.range len).map A).map (RT.pv r))],⟨_,rfl,fun x hx=>?_⟩,rfl,.cons _ _ _ _ ?_ .nil⟩
   · obtain ⟨i,hi,rfl⟩:=List.mem_map.1 hx
     exact (hA i (List.mem_range.1 hi)).1
   · have hlen:(((List.range len).map A).map (RT.pv r)).length=len:=by simp
     have:=VR.sl (im:=JQ w) (loc:=eZ) r.length false (((List.range len).map A).map (RT.pv r)) (some a) cap (by rw [hlen];exact hl) (fun h=>by cases h) (fun hne=>by
      have hpos:0<len:=by
       rcases Nat.eq_zero_or_pos len with h|h
       · subst h;exact absurd rfl hne
       · exact h
      obtain ⟨_,cs0,h0,_⟩:=hA 0 hpos;obtain ⟨_,hl0,hc0⟩:=World.cells?_some h0;obtain ⟨b,off,spot⟩:=a;have hspot:spot=none:=by
       have h1:=hc0 0 hr;rw [List.getElem?_eq_getElem (by omega)] at h1
       simpa [Addr.add] using World.cell?_spot h1
      subst hspot;refine ⟨b,off,rfl,fun i row hrow=>?_⟩
      simp only [List.map_map,List.getElem?_map,Option.map_eq_some_iff] at hrow;obtain ⟨j,hj,rfl⟩:=hrow;have hjl:=bT hj
      have:j=i:=by
       rw [List.getElem?_range (by simpa using hjl)] at hj
       exact (Option.some.inj hj).symm
      subst this;have hjlen:j<len:=by simpa using hjl
      obtain ⟨_,cs',h1,h2⟩:=hA j hjlen;obtain ⟨_,hl1,hc1⟩:=World.cells?_some h1;refine ⟨RT.pv_len r (A j),fun k c hk=>?_⟩
      obtain ⟨v,hv,hvr⟩:=VRL.nth h2 k c hk;have hkr:k<r.length:=by
       have:=bT hk
       rwa [Function.comp,RT.pv_len] at this
      have cc:=hc1 k hkr;rw [hv] at cc;rw [Go.WideShapes.add_plain,Go.WideShapes.add_plain] at cc;have hpl:c.plain=true:=List.all_eq_true.1 (RT.plain r (A j)) c (List.mem_of_getElem? hk);exact ⟨v,hvr.plain hpl,UZ cc⟩)
     rw [hlen] at this;exact this
theorem bU.argS {t:TypeId} {fs:Array Field} {K:List SV->Prop} (h:bU P t K) (ht:P.underlying t=some (.struct fs)) {H:Type} {enc:TypeId×Value->H} {w:World} {base:Nat} {v:Value} {d:DataW H} {p:List MemPlace}
 (hv:Value.okWide P w .any base t v) (hd:DataW.Trod enc P w 0 (fun _=>true) true t v d p): ∃vs q,K vs/\pvL vs=some q/\VR (JQ w) eZ (.agg q) v:=by
 obtain ⟨cs,rfl,_⟩:=okWide_struct ht hv;obtain ⟨fuel,hf⟩:=hd;obtain ⟨vs,q,k1,k2,k3⟩:=h H enc w fuel _ _ hf;exact ⟨vs,q,k1,k2,.agg q _ k3⟩
theorem E2 {n:Int} (h:(Lit.int .i64 n).wf=true): -9223372036854775808<=n/\n<9223372036854775808:=by
 simp only [Lit.wf,Bool.and_eq_true,decide_eq_true_eq] at h;have e1:IntKind.i64.min= -9223372036854775808:=by decide
 have e2:IntKind.i64.max=9223372036854775807:=by decide
 rw [e1,e2] at h;omega
end
theorem aF.runA {F:lX} {f:FuncId} {x:aI} {α:Type} {A:aB α} {fn:α->Option Bool} (h:aF F f ⟨A,aG.bool,fn,.pure,false⟩) (hf:F f=some (.code x)) {a:α} (hb:fn a=some true) {ps:List PV} (hp:pvL (A.enc a)=some ps) (hx:exL [] (xX [] dN) ps=some ps):
 ∃n s z,run F n (.func f ps [] [])=some (.func (.bool true) s z):=by
 obtain ⟨n,r,h1,p,h2,rfl⟩:=h a true ps ps [] [] hb hp hx;have hp':p= .bool true:=(Option.some.inj h2).symm;subst hp';refine ⟨n,?_⟩;simp only [callPure,hx,hf] at h1;split at h1
 · rename_i v s z hr
   simp only [Bool.false_eq_true,if_false] at h1;split at h1
   · injection h1 with h1
     injection h1 with h1;subst h1;exact ⟨s,z,hr⟩
   · rename_i hn
     split at h1
     · rename_i v' hv
       injection h1 with h1;injection h1 with h1;subst h1;exfalso;cases v with
       |bool b=>exact hn rfl
       |int _ _|str _|sl _ _ _=>injection hv with hv;cases hv
       |agg cs=>simp only [zM,Option.map_eq_some_iff] at hv;obtain ⟨_,_,hv⟩:=hv;cases hv
       |tup cs=>simp only [zM,Option.map_eq_some_iff] at hv;obtain ⟨_,_,hv⟩:=hv;cases hv
       |own t e off len cap ex=>simp only [zM] at hv;split at hv<;>first|(injection hv with hv;cases hv)|cases hv
       |_=>cases hv
     · cases h1
 · cases h1
end Go.Vm
