/- The logical machine, part 3: SvOps1, SvOps2, SvOps3, SvOps4, SvNorm, SvCall, SvFp, SvRun, SvCon, SvLaw. -/
import Derived.Test.YticklbjcnimggaaGreatBVm2
/- Operation by operation: what the typed machine does, the logical machine does; the easy ones. -/
namespace Go.Vm
def iV.stoOf (s:List SB) (r:iV):List SB:=
 match r.wr with
 | []=>apS s r.news
 |w=>apS (IQ (B4 w) (uC w s)) r.news
structure jC (s:List SB) (ps:cX) (sr:iV) (pr:rA):Prop where
 rd:pr.rd=sr.rd
 fr:pr.fr=sr.fr
 wr:pr.wr.map (·.1)=B4 sr.wr
 nw:zN pr.wr=true
 nl:pr.news.length=sr.news.length
 sto:cY (sr.stoOf s) (zM (iT pr.wr ps) pr.news)
 v:R (sr.stoOf s) sr.v pr.v
 fra:Fr (B4 sr.wr) s (sr.stoOf s)
section
variable {s : List SB} {ps : cX}
theorem jC.val (hS:cY s ps) {v:SV} {p:PV} {rd fr:List Nat} (hv:R s v p):jC s ps {v,rd,fr} {v:=p,rd,fr} where
 rd:=rfl
 fr:=rfl
 wr:=rfl
 nw:=rfl
 nl:=rfl
 sto:=by simp only [iV.stoOf,nZ,List.append_nil,iT,zM];exact hS
 v:=by simp only [iV.stoOf,nZ,List.append_nil];exact hv
 fra:=by simp only [iV.stoOf,nZ,List.append_nil];exact Fr.refl _ _
theorem jC.news (hS:cY s ps) {v:SV} {p:PV} {l:List SB} {q:cX} {rd:List Nat} (hl:q.length=l.length) (hb: ∀(j:Nat) (b:SB),l[j]? =some b-> ∃x,q[j]? =some x/\RB (s++l) b x) (hv:R (s++l) v p):
 jC s ps {v,news:=l,rd} {v:=p,news:=q,rd} where
 rd:=rfl
 fr:=rfl
 wr:=rfl
 nw:=rfl
 nl:=hl
 sto:=by simp only [iV.stoOf,nZ,iT,uN];exact hS.app hl hb
 v:=by simp only [iV.stoOf,nZ];exact hv
 fra:=by simp only [iV.stoOf,nZ];exact Fr.app _ _ _
theorem jC.new (hS:cY s ps) {v:SV} {p:PV} {b:SB} {q:mL} {rd:List Nat} (hb:RB (s++[b]) b q) (hv:R (s++[b]) v p):jC s ps {v,news:=[b],rd} {v:=p,news:=[q],rd}:=
 jC.news hS rfl (fun j x h=>by
  cases j with
  |zero=>simp at h;subst h;exact ⟨q,rfl,hb⟩
  |succ j=>simp at h) hv
def WV (b0 b:SB):Prop:=
 match b0 with
 | .arr r l=>(∃l',b= .arr r l'/\l'.length=l.length)\/b= .dead
 | .dead=>b= .dead
 |_=>True
theorem Fr.set {t:Nat} {b0 b:SB} (h0:s[t]? =some b0) (hk:WV b0 b):Fr [t] s (s.set t b):=fun u x hu=>by
 by_cases hut:t=u
 · subst hut
   rw [h0] at hu;injection hu with hu;subst hu;have hlt:=(List.getElem?_eq_some_iff.1 h0).1;have hb:(s.set t b)[t]? =some b:=by simp [hlt]
   cases b0 with
   |arr r l=>
    rcases hk with ⟨l',rfl,hl⟩|rfl
    · exact .inl ⟨l',hb,hl,fun h=>by simp [has] at h⟩
    · exact .inr hb
   |dead=>rw [show b= .dead from hk] at hb ⊢;exact hb
   |_=>trivial
 · have hb:(s.set t b)[u]? =some x:=by rw [List.getElem?_set];simp [hut,hu]
   cases x with
   |arr r l=>exact .inl ⟨l,hb,rfl,fun _=>rfl⟩
   |dead=>exact hb
   |_=>trivial
theorem cY.put (hS:cY s ps) {t:Nat} {b0 b:SB} {q:mL} (h0:s[t]? =some b0) (hk:WV b0 b) (hq:RB (IQ [t] (s.set t b)) (dgB [t] b) q):cY (IQ [t] (s.set t b)) (ps.set t q) where
 len:=by simp [FW,hS.len]
 at_:=fun u x hu=>by
  have hlt:=(List.getElem?_eq_some_iff.1 h0).1;rw [AB] at hu
  by_cases hut:t=u
  · subst hut
    have hb:(s.set t b)[t]? =some b:=by simp [hlt]
    rw [hb] at hu;simp at hu;subst hu;exact ⟨q,by rw [List.getElem?_set];simp [hS.len,hlt],hq⟩
  · rw [List.getElem?_set] at hu
    simp only [hut,if_false,Option.map_eq_some_iff] at hu;obtain ⟨y,hy,rfl⟩:=hu;obtain ⟨q',h1,h2⟩:=hS.at_ u y hy;exact ⟨q',by rw [List.getElem?_set];simp [hut,h1],h2.fr (Fr.dg (Fr.set h0 hk))⟩
theorem jC.put (hS:cY s ps) {v:SV} {p:PV} {t:Nat} {b0 b:SB} {q:mL} {l:List SB} {ql:cX} {rd:List Nat} (h0:s[t]? =some b0) (hk:WV b0 b) (hq:RB (IQ [t] (s.set t b)) (dgB [t] b) q)
 (hl:ql.length=l.length) (hb: ∀(j:Nat) (x:SB),l[j]? =some x-> ∃y,ql[j]? =some y/\RB (IQ [t] (s.set t b)++l) x y) (hv:R (IQ [t] (s.set t b)++l) v p):
 jC s ps {v,wr:=[(t,b)],news:=l,rd} {v:=p,wr:=[(t,q)],news:=ql,rd} where
 rd:=rfl
 fr:=rfl
 wr:=rfl
 nw:=rfl
 nl:=hl
 sto:=by
  simp only [iV.stoOf,nZ,iT,uN,B4,uC,FV];exact (hS.put h0 hk hq).app hl hb
 v:=by simp only [iV.stoOf,nZ,B4,uC,FV];exact hv
 fra:=by
  simp only [iV.stoOf,nZ,B4,uC,FV];exact (Fr.dg (Fr.set h0 hk)).trans (Fr.app _ _ _)
theorem jC.put0 (hS:cY s ps) {t:Nat} {b0 b:SB} {q:mL} {rd:List Nat} (h0:s[t]? =some b0) (hk:WV b0 b) (hq:RB (IQ [t] (s.set t b)) (dgB [t] b) q):
 jC s ps {v:= .undef,wr:=[(t,b)],rd} {v:= .undef,wr:=[(t,q)],rd}:=
 jC.put hS h0 hk hq rfl (fun j x h=>by simp at h) rfl
end
section
variable {R' ρ : Type} {w : R' -> ρ} {y : ρ}
theorem bP {α:Type} {x:Option α} {k:α->jN R'} (h:oE x k ρ w=some y): ∃a,x=some a/\k a ρ w=some y:=by
 cases x with
 |none=>cases h
 |some a=>exact ⟨a,rfl,h⟩
theorem dR {α:Type} {x:Option α} {k:α->jN R'} (h:qD x k ρ w=some y): ∃a,x=some a/\k a ρ w=some y:=T3 h
theorem fC {c:Bool} {a b:jN R'} (h:gV c a b ρ w=some y):(c=true/\a ρ w=some y)\/(c=false/\b ρ w=some y):=T4 h
theorem cV {c:Bool} {a:jN R'} (h:(bif c then a else aS) ρ w=some y):c=true/\a ρ w=some y:=by
 cases c
 · cases h
 · exact ⟨rfl,h⟩
theorem yX {c:Bool} {a:jN R'} (h:(bif c then aS else a) ρ w=some y):c=false/\a ρ w=some y:=by
 cases c
 · exact ⟨rfl,h⟩
 · cases h
theorem iJ {c:Bool} {a:jN R'} (h:gV c a aS ρ w=some y):c=true/\a ρ w=some y:=by
 rcases fC h with ⟨h1,h2⟩|⟨_,h2⟩
 · exact ⟨h1,h2⟩
 · cases h2
theorem AC {c:Bool} {a:jN R'} (h:gV c aS a ρ w=some y):c=false/\a ρ w=some y:=by
 rcases fC h with ⟨_,h2⟩|⟨h1,h2⟩
 · cases h2
 · exact ⟨h1,h2⟩
end
def iC {R':Type} (s:List SB) (ps:cX) (po:Option rA) (k:iV->jN R') (ρ:Type) (w:R'->ρ) (y:ρ):Prop:=
 ∃sr pr,po=some pr/\jC s ps sr pr/\k sr ρ w=some y
section
variable {R' ρ : Type} {w : R' -> ρ} {y : ρ} {s : List SB} {ps : cX} {e : SE} {pe : wK} {z : List Nat} {k : iV -> jN R'}
theorem iC.val (hS:cY s ps) {po:Option rA} {v:SV} {p:PV} (h:k {v} ρ w=some y) (hp:po=some {v:=p}) (hv:R s v p):iC s ps po k ρ w y:=
 ⟨_,_,hp,jC.val hS hv,h⟩
theorem iC.rd (hS:cY s ps) {po:Option rA} {v:SV} {p:PV} {rd:List Nat} (h:k {v,rd} ρ w=some y) (hp:po=some {v:=p,rd}) (hv:R s v p):iC s ps po k ρ w y:=
 ⟨_,_,hp,jC.val hS hv,h⟩
theorem pA (hE:dW s e pe) {x:fZ} {a:IntKind} {n:Int} (h:bY e x= .int a n):x.ev pe= .int a n:=by
 have:=eO hE x;rw [h] at this;exact this
theorem FX (hE:dW s e pe) {x:fZ} {b:Bool} (h:bY e x= .bool b):x.ev pe= .bool b:=by
 have:=eO hE x;rw [h] at this;exact this
theorem Y7 (hE:dW s e pe) {x:fZ} {v:SV} (h:bY e x=v):R s v (x.ev pe):=by
 have:=eO hE x;rwa [h] at this
theorem RI (k:IntKind):iA k k=true:=by cases k<;>rfl
theorem UD (hS:cY s ps) {op:BinOp} {a:IntKind} {m n:Int} (h:T6 op a m n (ofV k) ρ w=some y): ∃p,QH op a m n=some p/\iC s ps (some {v:=p}) k ρ w y:=by
 cases op with
 |quo=>
  obtain ⟨h1,h2⟩:=AC h;have hn:n≠0:=by intro e;subst e;cases h1
  exact ⟨_,by simp only [QH,if_neg hn],iC.val hS h2 rfl rfl⟩
 |rem=>
  obtain ⟨h1,h2⟩:=AC h;have hn:n≠0:=by intro e;subst e;cases h1
  exact ⟨_,by simp only [QH,if_neg hn],iC.val hS h2 rfl rfl⟩
 |shl=>cases h
 |shr=>cases h
 |_=>exact ⟨_,rfl,iC.val hS h rfl rfl⟩
theorem aCq (hE:dW s e pe) (hS:cY s ps) {op:BinOp} {a b:fZ} (h:oF e s z (.bin op a b) k ρ w=some y):iC s ps (bM pe ps z (.bin op a b)) k ρ w y:=by
 simp only [oF] at h;generalize ha:bY e a=va at h;cases va with
 |int ka m=>
  generalize hb:bY e b=vb at h;cases vb with
  |int kb n=>
   have h1:=pA hE ha;have h2:=pA hE hb;have key:(op≠ .shl)->(op≠ .shr)->(bif iA ka kb then T6 op ka m n (ofV k) else aS) ρ w=some y->iC s ps (bM pe ps z (.bin op a b)) k ρ w y:=by
    intro n1 n2 h;obtain ⟨hk,h⟩:=cV h;obtain ⟨p,hp,hs⟩:=UD hS h
    have:bM pe ps z (.bin op a b)=some {v:=p}:=by
     simp only [bM,h1,h2];cases op<;>first|exact absurd rfl n1|exact absurd rfl n2|(simp only [YL,hk,if_true,hp];rfl)
    rw [this];exact hs
   cases op with
   |shl=>
    obtain ⟨hc,h⟩:=AC h;have hc': ¬n<0:=by simpa using hc
    exact iC.val hS h (by simp only [bM,h1,h2,YL,G2,if_neg hc'];rfl) rfl
   |shr=>
    obtain ⟨hc,h⟩:=AC h;have hc': ¬n<0:=by simpa using hc
    exact iC.val hS h (by simp only [bM,h1,h2,YL,G2,if_neg hc'];rfl) rfl
   |_=>exact key (by intro e;cases e) (by intro e;cases e) h
  |_=>cases h
 |_=>cases h
theorem aAJ (hE:dW s e pe) (hS:cY s ps) {neg:Bool} {a b:fZ} (h:oF e s z (.binb neg a b) k ρ w=some y):iC s ps (bM pe ps z (.binb neg a b)) k ρ w y:=by
 simp only [oF] at h;generalize ha:bY e a=va at h;cases va with
 |bool x=>
  generalize hb:bY e b=vb at h;cases vb with
  |bool x'=>
   refine iC.val hS h ?_ rfl;simp only [bM,FX hE ha,FX hE hb];cases neg<;>rfl
  |_=>cases h
 |_=>cases h
theorem aAK: ∀{xs ys:List SV} {ps qs:List PV} {r:Bool},RL s xs ps->RL s ys qs->eqS xs ys=some r->dS ps qs=some r
 | [],[],ps,qs,r,h1,h2,h=>by rw [show ps=[] from h1,show qs=[] from h2];exact h
 |x::xs,b::ys,ps,qs,r,h1,h2,h=>by
  obtain ⟨p,ps,rfl,a1,a2⟩:=h1.cons_inv;obtain ⟨q,qs,rfl,b1,b2⟩:=h2.cons_inv;simp only [eqS] at h;split at h
  · rename_i ka m kb n
    have a1':p= .int ka m:=a1;have b1':q= .int kb n:=b1;subst a1' b1';cases hk:iA ka kb with
    |false=>rw [hk] at h;cases h
    |true=>
     rw [hk] at h;have hc:vF (.int ka m) (.int kb n)=some (m==n):=by simp only [vF,hk,if_true]
     simp only [dS,hc];cases xs with
     |nil=>
      cases ys with
      |nil=>
       simp only [cond_true,Option.some.injEq] at h;subst h;rw [show ps=[] from a2,show qs=[] from b2];cases m==n<;>rfl
      |cons _ _=>cases h
     |cons x2 xs2=>
      simp only [cond_true] at h;split at h
      · rename_i r' hr
        injection h with h;subst h;rw [aAK a2 b2 hr];cases m==n<;>rfl
      · cases h
  · cases h
 | [],_::_,ps,qs,r,h1,h2,h=>by cases h
 |_::_,[],ps,qs,r,h1,h2,h=>by cases h
theorem aCr (hE:dW s e pe) (hS:cY s ps) {n:Nat} {neg:Bool} {a b:fZ} (h:oF e s z (.eqc n neg a b) k ρ w=some y):iC s ps (bM pe ps z (.eqc n neg a b)) k ρ w y:=by
 simp only [oF] at h;generalize ha:bY e a=va at h;cases va with
 |agg xs=>
  generalize hb:bY e b=vb at h;cases vb with
  |agg ys=>
   obtain ⟨hl,h⟩:=cV h;obtain ⟨r,hr,h⟩:=bP h;obtain ⟨p,hp,h1⟩:=Y7 hE ha;obtain ⟨q,hq,h2⟩:=Y7 hE hb;refine iC.val hS h ?_ rfl;simp only [bM,hp,hq,h1.length,h2.length];rw [if_pos hl,aAK h1 h2 hr];cases neg<;>rfl
  |_=>cases h
 |_=>cases h
theorem aJa (hE:dW s e pe) (hS:cY s ps) {op:UnOp} {a:fZ} (h:oF e s z (.un op a) k ρ w=some y):iC s ps (bM pe ps z (.un op a)) k ρ w y:=by
 simp only [oF] at h;cases op with
 |neg=>
  dsimp only at h;generalize ha:bY e a=va at h;cases va with
  |int ka n=>exact iC.val hS h (by simp only [bM,pA hE ha];rfl) rfl
  |_=>cases h
 |not=>
  dsimp only at h;generalize ha:bY e a=va at h;cases va with
  |bool b=>exact iC.val hS h (by simp only [bM,FX hE ha];rfl) rfl
  |_=>cases h
 |_=>cases h
theorem aAL (hE:dW s e pe) (hS:cY s ps) {a:IntKind} {x:fZ} (h:oF e s z (.conv a x) k ρ w=some y):iC s ps (bM pe ps z (.conv a x)) k ρ w y:=by
 simp only [oF] at h;generalize ha:bY e x=va at h;cases va with
 |int ka n=>exact iC.val hS h (by simp only [bM,pA hE ha]) rfl
 |_=>cases h
theorem aCs (hE:dW s e pe) (hS:cY s ps) {x:fZ} (h:oF e s z (.len x) k ρ w=some y):iC s ps (bM pe ps z (.len x)) k ρ w y:=by
 simp only [oF] at h;have hx:=eO hE x;generalize bY e x=v at h hx;cases v with
 |nil e' c=>exact iC.val hS h (by simp only [bM,show x.ev pe= .sl e' c [] from hx];rfl) rfl
 |pre t len cap ex=>
  obtain ⟨e',hx,_⟩:=hx;exact iC.val hS h (by simp only [bM,hx]) rfl
 |part t off len cap ex=>
  obtain ⟨e',hx,_⟩:=hx;exact iC.val hS h (by simp only [bM,hx]) rfl
 |sl q m=>
  exact iC.val hS h (by simp only [bM,show x.ev pe=_ from hx,List.length_map]) rfl
 |own t ex=>
  obtain ⟨c,hc,h⟩:=bP h;simp only [DZ,cR] at hc;split at hc
  · rename_i q m hst
    injection hc with hc;subst hc;obtain ⟨e',n,hx,hat⟩:=hx;rcases hat with ⟨q',m',h1,rfl,rfl⟩|h1
    · rw [hst] at h1;injection h1 with h1;cases h1
      exact iC.val hS h (by simp only [bM,hx]) rfl
    · rw [hst] at h1;cases h1
  · cases hc
 |_=>obtain ⟨c,hc,h⟩:=bP h;cases hc
theorem FY: ∀{l:List (Nat×Nat×SV)} {pl:List (Nat×Nat×PV)} {cs:List SV} {pc:List PV} {r:List SV},
 (pl.length=l.length/\ ∀(j:Nat) (a:Nat×Nat×SV),l[j]? =some a-> ∃b,pl[j]? =some (a.1,a.2.1,b)/\R s a.2.2 b)->RL s cs pc->AA l cs=some r-> ∃q,pD pl pc=some q/\RL s r q
 | [],pl,cs,pc,r,hl,hc,h=>by
  have:pl=[]:=List.length_eq_zero_iff.1 hl.1
  subst this;injection h with h;subst h;exact ⟨pc,rfl,hc⟩
 |(off,sz,v)::l,pl,cs,pc,r,hl,hc,h=>by
  cases pl with
  |nil=>simp at hl
  |cons p pl=>
   obtain ⟨b,h1,h2⟩:=hl.2 0 _ rfl;simp at h1;subst h1;simp only [AA] at h;split at h
   · rename_i w hw
     obtain ⟨q,hq,hqr⟩:=h2.stored hw;cases hcnd:(Nat.beq w.length sz&&Nat.ble (off+sz) cs.length) with
     |false=>rw [hcnd] at h;cases h
     |true=>
      rw [hcnd] at h;simp only [cond_true] at h;obtain ⟨q2,h3,h4⟩:=FY (pl:=pl) ⟨by simpa using hl.1,fun j a ha=>hl.2 (j+1) a (by simpa using ha)⟩ (C4 hqr hc) h
      refine ⟨q2,?_,h4⟩;simp only [pD,hq,hqr.length,hc.length];rw [if_pos hcnd];exact h3
   · cases h
theorem RJ (hE:dW s e pe): ∀(l:List (Nat×Nat×fZ)),((l.map fun p=>(p.1,p.2.1,p.2.2.ev pe)).length=(B2 e l).length/\ ∀(j:Nat) (a:Nat×Nat×SV),(B2 e l)[j]? =some a-> ∃b,(l.map fun p=>(p.1,p.2.1,p.2.2.ev pe))[j]? =some (a.1,a.2.1,b)/\R s a.2.2 b)
 | []=>⟨rfl,fun j a h=>by simp [B2] at h⟩
 |p::l=>by
  obtain ⟨h1,h2⟩:=RJ hE l;refine ⟨by simp [B2] at h1 ⊢;omega,fun j a h=>?_⟩
  cases j with
  |zero=>simp [B2] at h;subst h;exact ⟨_,rfl,eO hE _⟩
  |succ j=>simp only [B2,List.getElem?_cons_succ] at h;obtain ⟨b,h3,h4⟩:=h2 j a h;exact ⟨b,by simpa using h3,h4⟩
theorem Y8 (hE:dW s e pe) (hS:cY s ps) {zero:List PV} {parts:List (Nat×Nat×fZ)} (h:oF e s z (.build zero parts) k ρ w=some y):iC s ps (bM pe ps z (.build zero parts)) k ρ w y:=by
 simp only [oF] at h;obtain ⟨cs,hc,h⟩:=bP h;obtain ⟨q,hq,hr⟩:=FY (RJ hE parts) (ofPVL_R s zero) hc;exact iC.val hS h (by simp only [bM,hq];rfl) ⟨q,rfl,hr⟩
theorem aCt (hE:dW s e pe) (hS:cY s ps) {x:fZ} (h:oF e s z (.box x) k ρ w=some y):iC s ps (bM pe ps z (.box x)) k ρ w y:=by
 simp only [oF] at h;obtain ⟨cs,hc,h⟩:=bP h;obtain ⟨q,hq,hr⟩:=(eO hE x).stored hc;refine ⟨_,_,?_,jC.new hS (b:= .box cs) (q:= .box q) (v:= .bp s.length cs.length 0) (p:= .ptr s.length cs.length 0 0) (rd:=[]) ⟨q,rfl,hr.ext (Fr.app _ _ _)⟩ rfl,h⟩;simp only [bM,hq,hS.len,hr.length]
theorem Y9 (hS:cY s ps) {cells:List PV} (h:oF e s z (.alloc cells) k ρ w=some y):iC s ps (bM pe ps z (.alloc cells)) k ρ w y:=by
 simp only [oF] at h;refine ⟨_,_,?_,jC.new hS (b:= .box (ofPVL cells)) (q:= .box cells) (v:= .bp s.length cells.length 0) (p:= .ptr s.length cells.length 0 0) (rd:=[]) ⟨cells,rfl,ofPVL_R _ _⟩ rfl,h⟩;simp only [bM,hS.len]
theorem aAM (hE:dW s e pe) (hS:cY s ps) {x:fZ} (h:oF e s z (.nilc x) k ρ w=some y):iC s ps (bM pe ps z (.nilc x)) k ρ w y:=by
 simp only [oF] at h;have hx:=eO hE x;generalize bY e x=v at h hx;cases v with
 |pa t r i a o=>exact iC.val hS h (by simp only [bM,hx.1]) ⟨rfl,hx.2⟩
 |pb t i o=>
  obtain ⟨e',h1,h2⟩:=hx;exact iC.val hS h (by simp only [bM,h1]) ⟨e',rfl,h2⟩
 |bp t n o=>exact iC.val hS h (by simp only [bM,show x.ev pe=_ from hx]) rfl
 |rptr c o=>
  obtain ⟨q,h1,h2⟩:=hx;exact iC.val hS h (by simp only [bM,h1]) ⟨q,rfl,h2⟩
 |clo f a b=>
  obtain ⟨pa,pb,h1,h2⟩:=hx;exact iC.val hS h (by simp only [bM,h1]) ⟨pa,pb,rfl,h2⟩
 |_=>cases h
theorem aAN (hE:dW s e pe) (hS:cY s ps) {off:Nat} {x:fZ} (h:oF e s z (.fadr off x) k ρ w=some y):iC s ps (bM pe ps z (.fadr off x)) k ρ w y:=by
 simp only [oF] at h;have hx:=eO hE x;generalize bY e x=v at h hx;cases v with
 |pa t r i a o=>exact iC.val hS h (by simp only [bM,hx.1]) ⟨rfl,hx.2⟩
 |pb t i o=>
  obtain ⟨e',h1,h2⟩:=hx;exact iC.val hS h (by simp only [bM,h1]) ⟨e',rfl,h2⟩
 |bp t n o=>exact iC.val hS h (by simp only [bM,show x.ev pe=_ from hx]) rfl
 |rptr c o=>
  obtain ⟨q,h1,h2⟩:=hx;exact iC.val hS h (by simp only [bM,h1]) ⟨q,rfl,h2⟩
 |_=>cases h
theorem aCu (hE:dW s e pe) (hS:cY s ps) {agg:Option Nat} {off:Nat} {x:fZ} (h:oF e s z (.fld agg off x) k ρ w=some y):iC s ps (bM pe ps z (.fld agg off x)) k ρ w y:=by
 simp only [oF] at h;generalize hv:bY e x=v at h;cases v with
 |agg cs=>
  obtain ⟨v,h1,h⟩:=bP h;obtain ⟨q,h2,h3⟩:=Y7 hE hv;obtain ⟨p,h4,h5⟩:=wY h3 h1;exact iC.val hS h (by simp only [bM,h2,h4];rfl) h5
 |_=>cases h
theorem aCv (hE:dW s e pe) (hS:cY s ps) {i:Nat} {x:fZ} (h:oF e s z (.ext i x) k ρ w=some y):iC s ps (bM pe ps z (.ext i x)) k ρ w y:=by
 simp only [oF] at h;generalize hv:bY e x=v at h;cases v with
 |tup cs=>
  obtain ⟨v,h1,h⟩:=bP h;obtain ⟨q,h2,h3⟩:=Y7 hE hv;obtain ⟨p,h4,h5⟩:=h3.nth h1;exact iC.val hS h (by simp only [bM,h2,h4];rfl) h5
 |_=>cases h
theorem aCw (hE:dW s e pe) (hS:cY s ps) {f:FuncId} {a b:List fZ} (h:oF e s z (.mkf f a b) k ρ w=some y):iC s ps (bM pe ps z (.mkf f a b)) k ρ w y:=by
 simp only [oF] at h;exact iC.val hS h rfl ⟨_,_,rfl,C2 hE a,C2 hE b⟩
theorem aCx (hS:cY s ps) (h:oF e s z .mkm k ρ w=some y):iC s ps (bM pe ps z .mkm) k ρ w y:=by
 simp only [oF] at h;refine ⟨_,_,?_,jC.new hS (b:= .set []) (q:= .map []) (v:= .mp s.length) (p:= .mp s.length) (rd:=[]) rfl rfl,h⟩;simp only [bM,hS.len]
theorem aIN: ∀{l:List SV} {q:List PV} {m:Bool} {a:IntKind} {n:Int} {v:SV},RL s l q->mmS m a n l=some v-> ∃p,mmE m a n q=some p/\R s v p
 | [],q,m,a,n,v,hl,h=>by
  rw [show q=[] from hl];injection h with h;subst h;exact ⟨_,rfl,rfl⟩
 |x::l,q,m,a,n,v,hl,h=>by
  obtain ⟨p,q,rfl,h1,h2⟩:=hl.cons_inv;simp only [mmS] at h;split at h
  · rename_i b c
    have h1':p= .int b c:=h1;subst h1';cases hk:iA a b with
    |true=>
     rw [hk] at h;obtain ⟨p,h3,h4⟩:=aIN h2 h;refine ⟨p,?_,h4⟩;simp only [mmE,hk,if_true];rw [<- h3];cases m<;>rfl
    |false=>rw [hk] at h;cases h
  · cases h
theorem aJb (hE:dW s e pe) (hS:cY s ps) {m:Bool} {x:fZ} {xs:List fZ} (h:oF e s z (.mm m x xs) k ρ w=some y):iC s ps (bM pe ps z (.mm m x xs)) k ρ w y:=by
 simp only [oF] at h;generalize hv:bY e x=v at h;cases v with
 |int a n=>
  obtain ⟨v,h1,h⟩:=bP h;obtain ⟨p,h2,h3⟩:=aIN (C2 hE xs) h1;exact iC.val hS h (by simp only [bM,pA hE hv,h2];rfl) h3
 |_=>cases h
theorem aAO (hE:dW s e pe) (hS:cY s ps) {c a b:fZ} (h:oF e s z (.pick c a b) k ρ w=some y):iC s ps (bM pe ps z (.pick c a b)) k ρ w y:=by
 simp only [oF] at h;generalize hv:bY e c=v at h;cases v with
 |bool x=>
  rcases fC h with ⟨rfl,h⟩|⟨rfl,h⟩
  · exact iC.val hS h (by simp only [bM,FX hE hv]) (eO hE a)
  · exact iC.val hS h (by simp only [bM,FX hE hv]) (eO hE b)
 |_=>cases h
end
end Go.Vm
/- Operation by operation, second part: elements, blocks, slices, sets. -/
namespace Go.Vm
section
variable {R' ρ : Type} {w : R' -> ρ} {y : ρ} {s : List SB} {ps : cX} {e : SE} {pe : wK} {z : List Nat} {k : iV -> jN R'}
theorem cY.arr (hS:cY s ps) {t:Nat} {r:List PT} {l:List (RT r)} (h:s[t]? =some (.arr r l)):ps[t]? =some (.arr r.length (l.map (RT.pv r))):=by
 obtain ⟨q,h1,h2⟩:=hS.at_ t _ h;rw [show q=_ from h2] at h1;exact h1
theorem cY.box (hS:cY s ps) {t:Nat} {cs:List SV} (h:s[t]? =some (.box cs)): ∃q,ps[t]? =some (.box q)/\RL s cs q:=by
 obtain ⟨q,h1,q',rfl,h2⟩:=hS.at_ t _ h;exact ⟨q',h1,h2⟩
theorem cY.set_ (hS:cY s ps) {t:Nat} {l:List (List Int)} (h:s[t]? =some (.set l)):ps[t]? =some (.map (l.map FU)):=by
 obtain ⟨q,h1,h2⟩:=hS.at_ t _ h;rw [show q=_ from h2] at h1;exact h1
theorem aAG.inv {t e n:Nat} {r:List PT} {l:List (RT r)} (h:aAG s t e n) (hs:s[t]? =some (.arr r l)):e=r.length/\n=l.length:=by
 rcases h with ⟨q,m,h1,rfl,rfl⟩|h1
 · rw [hs] at h1;injection h1 with h1;cases h1;exact ⟨rfl,rfl⟩
 · rw [hs] at h1;cases h1
theorem D2.inv {t e:Nat} {r:List PT} {l:List (RT r)} (h:D2 s t e) (hs:s[t]? =some (.arr r l)):e=r.length:=by
 rcases h with ⟨q,m,h1,rfl⟩|h1
 · rw [hs] at h1;injection h1 with h1;cases h1;rfl
 · rw [hs] at h1;cases h1
theorem aAH.inv {t:Nat} {q r:List PT} {i:Int} {a:RT q} {l:List (RT r)} (h:aAH s t q i a) (hs:s[t]? =some (.arr r l)): ∃e:q=r,aO l i=some (e▸a):=by
 rcases h with ⟨m,h1,h2⟩|h1
 · rw [hs] at h1;injection h1 with h1;cases h1;exact ⟨rfl,h2⟩
 · rw [hs] at h1;cases h1
theorem aI9.inv {t:Nat} {r:List PT} {i:Int} {l:List (RT r)} (h:aI9 s t i) (hs:s[t]? =some (.arr r l)):(aO l i).isSome=true:=by
 rcases h with ⟨q,m,h1,h2⟩|h1
 · rw [hs] at h1;injection h1 with h1;cases h1;exact h2
 · rw [hs] at h1;cases h1
theorem gD {α:Type} {l:List α} {n:Nat} {i:Int} {a:α} (h:aO (l.take n) i=some a): ∃m:Nat,i=Int.ofNat m/\m<n/\l[m]? =some a:=by
 obtain ⟨m,rfl,hm⟩:=pH h;have hlt:=(List.getElem?_eq_some_iff.1 hm).1;rw [List.length_take] at hlt;have hmn:m<n:=by omega
 rw [List.getElem?_take_of_lt hmn] at hm;exact ⟨m,rfl,hmn,hm⟩
theorem aAP (hE:dW s e pe) (hS:cY s ps) {esz:Nat} {x i:fZ} (h:oF e s z (.iadr esz x i) k ρ w=some y):iC s ps (bM pe ps z (.iadr esz x i)) k ρ w y:=by
 simp only [oF] at h;generalize hi:bY e i=vi at h;cases vi with
 |int ki n=>
  have hi:=pA hE hi;have hx:=eO hE x;dsimp only at h;unfold aIG at h;generalize bY e x=v at h hx;cases v with
  |sl r l=>
   obtain ⟨he,h⟩:=cV h;obtain ⟨a,ha,hk⟩:=dR h;obtain ⟨m,rfl,hm⟩:=pH ha;refine iC.val hS (p:= .rptr (RT.pv r a) 0) hk ?_ ⟨_,rfl,NH r a⟩;have hr:(l.map (RT.pv r))[m]? =some (RT.pv r a):=by simp [hm]
   simp only [bM,hi,lT,show x.ev pe=_ from hx,hr,he,if_true]
  |own t ex=>
   simp only [cR] at h;generalize hst:s[t]? =b at h;cases b with
   |none=>cases h
   |some b=>
    cases b with
    |arr r l=>
     obtain ⟨he,h⟩:=cV h;obtain ⟨a,ha,hk⟩:=dR h;obtain ⟨m,rfl,hm⟩:=pH ha;obtain ⟨e',n',hx,hat⟩:=hx;obtain ⟨rfl,rfl⟩:=hat.inv hst;have hlt:=(List.getElem?_eq_some_iff.1 hm).1;have h1:Nat.blt m l.length=true:=by simpa using hlt
     refine iC.val hS (p:= .ptr t r.length m 0) hk ?_ ⟨rfl,.inl ⟨l,hst,ha⟩⟩;simp only [bM,hi,lT,hx,h1,he,Bool.and_self,if_true,Nat.zero_add]
    |_=>cases h
  |pre t len cap ex=>
   simp only [cR] at h;generalize hst:s[t]? =b at h;cases b with
   |none=>cases h
   |some b=>
    cases b with
    |arr r l=>
     obtain ⟨he,h⟩:=cV h;obtain ⟨a,ha,hk⟩:=dR h;obtain ⟨m,rfl,hlt,hm⟩:=gD ha;obtain ⟨e',hx,hat⟩:=hx
     have:=hat.inv hst
     subst this;have h1:Nat.blt m len=true:=by simpa using hlt
     refine iC.val hS (p:= .ptr t r.length m 0) hk ?_ ⟨rfl,.inl ⟨l,hst,hm⟩⟩;simp only [bM,hi,lT,hx,h1,he,Bool.and_self,if_true,Nat.zero_add]
    |_=>cases h
  |_=>cases h
 |_=>cases h
theorem EO {n:Nat} {i:Int} {j:Nat} {f:Nat->jN R'}:RA n i j f ρ w=some y-> ∃m,i=Int.ofNat m/\j<=m/\m<j+n/\f m ρ w=some y:=by
 induction n generalizing j with
 |zero=>intro h;cases h
 |succ n ih=>
  intro h;rcases fC h with ⟨h1,h2⟩|⟨_,h2⟩
  · exact ⟨j,by simpa using h1,Nat.le_refl _,by omega,h2⟩
  · obtain ⟨m,h3,h4,h5,h6⟩:=ih h2
    exact ⟨m,h3,by omega,by omega,h6⟩
theorem ZA (hE:dW s e pe) (hS:cY s ps) {n esz:Nat} {p i:fZ} (h:oF e s z (.iadra n esz p i) k ρ w=some y):iC s ps (bM pe ps z (.iadra n esz p i)) k ρ w y:=by
 simp only [oF] at h;generalize hi:bY e i=vi at h;cases vi with
 |int ki j=>
  have hi:=pA hE hi;have hx:=eO hE p;generalize bY e p=v at h hx;cases v with
  |bp t m o=>
   obtain ⟨j',rfl,_,h2,h⟩:=EO h;have h1:Nat.blt j' n=true:=by simp;omega
   exact iC.val hS h (by simp only [bM,hi,lT,h1,if_true,show p.ev pe=_ from hx]) rfl
  |rptr c o=>
   obtain ⟨j',rfl,_,h2,h⟩:=EO h;have h1:Nat.blt j' n=true:=by simp;omega
   obtain ⟨q,hq,hr⟩:=hx;exact iC.val hS h (by simp only [bM,hi,lT,h1,if_true,hq]) ⟨q,rfl,hr⟩
  |_=>cases h
 |_=>cases h
theorem aCy (hE:dW s e pe) (hS:cY s ps) {n esz:Nat} {agg:Option Nat} {x i:fZ} (h:oF e s z (.idx n esz agg x i) k ρ w=some y):iC s ps (bM pe ps z (.idx n esz agg x i)) k ρ w y:=by
 simp only [oF] at h;generalize hi:bY e i=vi at h;cases vi with
 |int ki j=>
  have hi:=pA hE hi;generalize hx:bY e x=v at h;cases v with
  |agg cs=>
   obtain ⟨j',rfl,_,h2,h⟩:=EO h;have h1:Nat.blt j' n=true:=by simp;omega
   obtain ⟨v,hv,h⟩:=bP h;obtain ⟨q,hq,hr⟩:=Y7 hE hx;obtain ⟨p,hp,hpr⟩:=wY hr hv;exact iC.val hS h (by simp only [bM,hi,lT,h1,if_true,hq,hp];rfl) hpr
  |_=>cases h
 |_=>cases h
theorem aAQ (hE:dW s e pe) (hS:cY s ps) {x i:fZ} (h:oF e s z (.sidx x i) k ρ w=some y):iC s ps (bM pe ps z (.sidx x i)) k ρ w y:=by
 simp only [oF] at h;generalize hi:bY e i=vi at h;cases vi with
 |int ki j=>
  have hi:=pA hE hi;generalize hx:bY e x=v at h;cases v with
  |str t=>
   obtain ⟨b,hb,h⟩:=dR h;have hx:=Y7 hE hx;cases j with
   |negSucc _=>cases hb
   |ofNat m=>
    simp only [aIF,Option.map_eq_some_iff] at hb;obtain ⟨c,hc,rfl⟩:=hb;exact iC.val hS h (by simp only [bM,hi,lT,show x.ev pe=_ from hx,hc]) rfl
  |_=>cases h
 |_=>cases h
theorem aAR (hE:dW s e pe) (hS:cY s ps) {agg:Option Nat} {p:fZ} (h:oF e s z (.load agg p) k ρ w=some y):iC s ps (bM pe ps z (.load agg p)) k ρ w y:=by
 simp only [oF] at h;have hx:=eO hE p;unfold aIH at h;generalize bY e p=v at h hx;cases v with
 |bp t n off=>
  simp only [cR] at h;generalize hst:s[t]? =b at h;cases b with
  |none=>cases h
  |some b=>
   cases b with
   |box cs=>
    obtain ⟨v,hv,h⟩:=bP h;obtain ⟨q,h1,h2⟩:=hS.box hst;obtain ⟨u,h3,h4⟩:=wY h2 hv;refine iC.rd hS h ?_ h4;show rB ps agg (p.ev pe)=_;rw [show p.ev pe=_ from hx];simp only [rB,h1,Nat.beq_refl,if_true,h3];rfl
   |_=>cases h
 |pa t r i a off=>
  simp only [cR] at h;generalize hst:s[t]? =b at h;cases b with
  |none=>cases h
  |some b=>
   cases b with
   |arr q l=>
    obtain ⟨v,hv,hk⟩:=bP h;obtain ⟨hx,hat⟩:=hx;obtain ⟨rfl,hg⟩:=hat.inv hst;obtain ⟨u,h3,h4⟩:=wY (NH r a) hv;obtain ⟨m,rfl,hm⟩:=pH hg;refine iC.rd hS hk ?_ h4;show rB ps agg (p.ev pe)=_;rw [hx];have hm':(l.map (RT.pv r))[m]? =some (RT.pv r a):=by simp [hm]
    have e1:(Int.ofNat m).toNat=m:=rfl;simp only [rB,hS.arr hst,e1,hm',h3];rfl
   |_=>cases h
 |pb t i off=>
  simp only [cR] at h;generalize hst:s[t]? =b at h;cases b with
  |none=>cases h
  |some b=>
   cases b with
   |arr r l=>
    obtain ⟨a,ha,h⟩:=dR h;obtain ⟨v,hv,hk⟩:=bP h;obtain ⟨e',hx,hat⟩:=hx;obtain ⟨u,h3,h4⟩:=wY (NH r a) hv;obtain ⟨m,rfl,hm⟩:=pH ha;refine iC.rd hS hk ?_ h4;show rB ps agg (p.ev pe)=_;rw [hx];have hm':(l.map (RT.pv r))[m]? =some (RT.pv r a):=by simp [hm]
    have e1:(Int.ofNat m).toNat=m:=rfl;simp only [rB,hS.arr hst,e1,hm',h3];rfl
   |_=>cases h
 |rptr cs off=>
  obtain ⟨v,hv,h⟩:=bP h;obtain ⟨q,hq,hr⟩:=hx;obtain ⟨u,h3,h4⟩:=wY hr hv;refine iC.val hS h ?_ h4;show rB ps agg (p.ev pe)=_;rw [hq];simp only [rB,h3];rfl
 |_=>cases h
theorem O1 (hS:cY s ps) {t:Nat} {r:List PT} {l:List (RT r)} (hst:s[t]? =some (.arr r l)) {i:Int} {b:RT r} {rd:List Nat}:
 jC s ps {v:= .undef,wr:=[(t,.arr r (bX l i b))],rd} {v:= .undef,wr:=[(t,.arr r.length ((l.map (RT.pv r)).set i.toNat (RT.pv r b)))],rd}:=
 jC.put0 hS hst (.inl ⟨_,rfl,by simp⟩) (by show _=_;simp [bX,List.map_set])
theorem ZB (hE:dW s e pe) (hS:cY s ps) {sz:Nat} {p x:fZ} (h:oF e s z (.store sz p x) k ρ w=some y):iC s ps (bM pe ps z (.store sz p x)) k ρ w y:=by
 simp only [oF] at h;have hx:=eO hE p;have hv:=eO hE x;unfold aAv at h;generalize bY e p=v at h hx;generalize bY e x=u at h hv;cases v with
 |bp t n off=>
  simp only [cR] at h;generalize hst:s[t]? =b at h;cases b with
  |none=>cases h
  |some b=>
   cases b with
   |box cs=>
    obtain ⟨w',hw,h⟩:=bP h;obtain ⟨hc,h⟩:=cV h;obtain ⟨q,h1,h2⟩:=hv.stored hw;obtain ⟨b,h3,h4⟩:=hS.box hst;have hfr:=Fr.dg (ts:=[t]) (Fr.set (b:= .box (sI off w' cs)) hst trivial);refine ⟨_,_,?_,jC.put0 hS (b:= .box (sI off w' cs)) (q:= .box (rE off q b)) (rd:=[]) hst trivial ⟨_,rfl,RL.fr hfr (C4 h2 h4)⟩,h⟩
    · show vG ps z sz (x.ev pe) (p.ev pe)=_
      rw [show p.ev pe=_ from hx];simp only [vG,h3,h1,h2.length,h4.length];rw [if_pos (by simpa using hc)]
   |_=>cases h
 |pa t r i a off=>
  simp only [cR] at h;generalize hst:s[t]? =b at h;cases b with
  |none=>cases h
  |some b=>
   cases b with
   |arr q l=>
    obtain ⟨hc,h⟩:=cV h;obtain ⟨a',ha',hk⟩:=bP h;obtain ⟨hx,hat⟩:=hx;obtain ⟨rfl,hg⟩:=hat.inv hst;obtain ⟨m,rfl,hm⟩:=pH hg;refine ⟨_,_,?_,O1 hS hst (rd:=[]),hk⟩;show vG ps z sz (x.ev pe) (p.ev pe)=_;rw [hx];have hm':(l.map (RT.pv r))[m]? =some (RT.pv r a):=by simp [hm]
    have e1:(Int.ofNat m).toNat=m:=rfl;simp only [Bool.and_eq_true,Bool.not_eq_true'] at hc;obtain ⟨⟨c1,c2⟩,c3⟩:=hc;have hj:u≠ .junk:=by
     intro e;subst e
     have:=RT.of_some ha'
     have hq:=congrArg (fun l=>l[off]?) this
     have hle:=Nat.le_of_ble_eq_true c2;have hsz:sz=1:=by have:=Nat.eq_of_beq_eq_true c1;simpa [SV.cells] using this.symm
     have hlt:off<r.length:=by omega
     have hl1:off<(RT.sv r a).length:=by rw [RT.sv_len];exact hlt
     simp only [sI,SV.cells] at hq;rw [List.getElem?_append_left (by simp;omega),List.getElem?_append_right (by simp;omega)] at hq
     simp only [List.length_take,Nat.min_eq_left (Nat.le_of_lt hl1),Nat.sub_self,List.getElem?_cons_zero] at hq
     have: ∀(r:List PT) (b:RT r) (n:Nat),(RT.sv r b)[n]?≠some .junk:=by
      intro r
      induction r with
      |nil=>intro b n h;simp [RT.sv] at h
      |cons p rest ih=>
       intro b n;cases rest with
       |nil=>cases n<;>cases p<;>simp [RT.sv,PT.sv]
       |cons p2 rest2=>cases n with
        |zero=>cases p<;>simp [RT.sv,PT.sv]
        |succ n=>simpa [RT.sv] using ih b.2 n
     exact this r a' off hq.symm
    have hcells:=hv.cells hj;have hrow:=RT.of_some ha';have h5:RL s (RT.sv r a') (rE off (x.ev pe).cells (RT.pv r a)):=by
     rw [<- hrow];exact C4 hcells (NH r a)
    have h6:=C3 r a' h5;have hplain:(x.ev pe).storedPlain=some (x.ev pe).cells:=by
     unfold PV.storedPlain;rw [if_pos ?_];have hall:=RT.plain r a';rw [<- h6] at hall;unfold rE at hall;simp only [List.all_append,Bool.and_eq_true] at hall;exact hall.1.2
    simp only [vG,hS.arr hst,e1,hm',hplain,hcells.length,RT.pv_len];rw [if_pos (by simp [c1,c2,c3])]
    simp only [h6]
   |_=>cases h
 |pb t i off=>
  simp only [cR] at h;generalize hst:s[t]? =b at h;cases b with
  |none=>cases h
  |some b=>
   cases b with
   |arr r l=>
    obtain ⟨hc,h⟩:=cV h;obtain ⟨e',hx,hat⟩:=hx;have hin:=hat.inv hst;rw [Option.isSome_iff_exists] at hin;obtain ⟨a0,hg⟩:=hin;obtain ⟨m,rfl,hm⟩:=pH hg;have hm':(l.map (RT.pv r))[m]? =some (RT.pv r a0):=by simp [hm]
    have e1:(Int.ofNat m).toNat=m:=rfl;simp only [Bool.and_eq_true,Bool.not_eq_true'] at hc;obtain ⟨⟨c1,c2⟩,c3⟩:=hc;cases hsz:Nat.beq sz r.length with
    |true=>
     rw [hsz] at h;obtain ⟨a',ha',hk⟩:=bP h;obtain ⟨hp,hl⟩:=hv.ofRow ha';have hszr:=Nat.eq_of_beq_eq_true hsz;have hoff:off=0:=by have:=Nat.le_of_ble_eq_true c2;omega
     subst hoff;refine ⟨_,_,?_,O1 hS hst (rd:=[]),hk⟩;show vG ps z sz (x.ev pe) (p.ev pe)=_;rw [hx];simp only [vG,hS.arr hst,e1,hm',hp,RT.pv_len];rw [if_pos (by rw [Nat.zero_add,hszr];simp [c3])]
     have:rE 0 (RT.pv r a') (RT.pv r a0)=RT.pv r a':=by
      unfold rE;rw [RT.pv_len,List.drop_of_length_le (by rw [RT.pv_len];omega)];simp
     rw [this]
    |false=>
     rw [hsz] at h;obtain ⟨a,ha,h⟩:=dR h;obtain ⟨a',ha',hk⟩:=bP h;rw [hg] at ha;injection ha with ha;subst ha;refine ⟨_,_,?_,O1 hS hst (rd:=[]),hk⟩;show vG ps z sz (x.ev pe) (p.ev pe)=_;rw [hx];have hj:u≠ .junk:=by
      intro e;subst e
      have:=RT.of_some ha'
      have hq:=congrArg (fun l=>l[off]?) this
      have hle:=Nat.le_of_ble_eq_true c2;have hsz:sz=1:=by have:=Nat.eq_of_beq_eq_true c1;simpa [SV.cells] using this.symm
      have hlt:off<r.length:=by omega
      have hl1:off<(RT.sv r a0).length:=by rw [RT.sv_len];exact hlt
      simp only [sI,SV.cells] at hq;rw [List.getElem?_append_left (by simp;omega),List.getElem?_append_right (by simp;omega)] at hq
      simp only [List.length_take,Nat.min_eq_left (Nat.le_of_lt hl1),Nat.sub_self,List.getElem?_cons_zero] at hq
      have: ∀(r:List PT) (b:RT r) (n:Nat),(RT.sv r b)[n]?≠some .junk:=by
       intro r
       induction r with
       |nil=>intro b n h;simp [RT.sv] at h
       |cons p rest ih=>
        intro b n;cases rest with
        |nil=>cases n<;>cases p<;>simp [RT.sv,PT.sv]
        |cons p2 rest2=>cases n with
         |zero=>cases p<;>simp [RT.sv,PT.sv]
         |succ n=>simpa [RT.sv] using ih b.2 n
      exact this r a' off hq.symm
     have hcells:=hv.cells hj;have hrow:=RT.of_some ha';have h5:RL s (RT.sv r a') (rE off (x.ev pe).cells (RT.pv r a0)):=by
      rw [<- hrow];exact C4 hcells (NH r a0)
     have h6:=C3 r a' h5;have hplain:(x.ev pe).storedPlain=some (x.ev pe).cells:=by
      unfold PV.storedPlain;rw [if_pos ?_];have hall:=RT.plain r a';rw [<- h6] at hall;unfold rE at hall;simp only [List.all_append,Bool.and_eq_true] at hall;exact hall.1.2
     simp only [vG,hS.arr hst,e1,hm',hplain,hcells.length,RT.pv_len];rw [if_pos (by simp [c1,c2,c3])]
     simp only [h6]
   |_=>cases h
 |_=>cases h
end
end Go.Vm
/- Operation by operation, third part: slices, new blocks, append, sets; all of them together. -/
namespace Go.Vm
section
variable {R' ρ : Type} {w : R' -> ρ} {y : ρ} {s : List SB} {ps : cX} {e : SE} {pe : wK} {z : List Nat} {k : iV -> jN R'}
def K7 (pe:wK) (o:Option fZ):Option (Option Nat):=match o with|none=>some none|some a=>(lT (a.ev pe)).map some
theorem yY (hE:dW s e pe) {o:Option fZ} {d a:Int} {n:Nat} (h:HI e d o=some a) (hd:d=Int.ofNat n) (h0:0<=a): ∃b,K7 pe o=some b/\b.getD n=a.toNat:=by
 cases o with
 |none=>
  injection h with h;subst h hd;exact ⟨none,rfl,rfl⟩
 |some x=>
  simp only [HI] at h;split at h
  · rename_i ka m hx
    injection h with h;subst h;obtain ⟨b,rfl⟩:=Int.eq_ofNat_of_zero_le h0;refine ⟨some b,?_,rfl⟩;simp only [K7,pA hE hx];rfl
  · cases h
theorem EP {esz:Nat} {x:fZ} {lo hi mx:Option fZ} {l h m:Option Nat} {v:PV} (he:yL esz (x.ev pe)=true) (h1:K7 pe lo=some l) (h2:K7 pe hi=some h) (h3:K7 pe mx=some m) (hv:tZ (x.ev pe) l h m=some v):
 bM pe ps z (.slc esz x lo hi mx)=some {v:=v}:=by
 have e:bM pe ps z (.slc esz x lo hi mx)=(match K7 pe lo,K7 pe hi,K7 pe mx with|some l,some h,some m=>(tZ (x.ev pe) l h m).map fun v=>({v}:rA)|_,_,_=>none):=by
  simp only [bM,he,Bool.not_true,Bool.false_eq_true,if_false];rfl
 rw [e,h1,h2,h3];simp only [hv];rfl
theorem K8 {α:Type} {l r:List α} {lo hi:Int} (h:iI l lo hi=some r): ∃a b:Nat,lo=Int.ofNat a/\hi=Int.ofNat b/\a<=b/\b<=l.length/\r=(l.drop a).take (b-a):=by
 unfold iI at h;split at h
 · rename_i hc
   obtain ⟨a,rfl⟩:=Int.eq_ofNat_of_zero_le hc.1;obtain ⟨b,rfl⟩:=Int.eq_ofNat_of_zero_le (Int.le_trans hc.1 hc.2.1);injection h with h;exact ⟨a,b,rfl,rfl,by omega,by omega,by rw [<- h];simp⟩
 · cases h
theorem O2 (hE:dW s e pe) (hS:cY s ps) {esz t off len cap:Nat} {ex:Bool} {x:fZ} {lo hi mx:Option fZ} (hx:x.ev pe= .own t esz off len cap ex) (hat:D2 s t esz) (h:T7 e t off len cap ex lo hi mx k ρ w=some y):
 iC s ps (bM pe ps z (.slc esz x lo hi mx)) k ρ w y:=by
 unfold T7 at h;obtain ⟨a,ha,h⟩:=bP h;obtain ⟨b,hb,h⟩:=bP h;have he:yL esz (x.ev pe)=true:=by rw [hx];simp [yL]
 cases mx with
 |none=>
  obtain ⟨hc,h⟩:=iJ h;simp only [Bool.and_eq_true,decide_eq_true_eq] at hc;obtain ⟨⟨c1,c2⟩,c3⟩:=hc;obtain ⟨l,h1,h2⟩:=yY hE (n:=0) ha rfl c1;obtain ⟨u,h3,h4⟩:=yY hE (n:=len) hb rfl (Int.le_trans c1 c2);refine iC.val hS h (EP he h1 h3 (m:=none) rfl ?_) ⟨esz,rfl,hat⟩;rw [hx];have c4:(Nat.ble a.toNat b.toNat&&Nat.ble b.toNat cap)=true:=by
   have c3':b<=(cap:Int):=c3
   simp;omega
  simp only [tZ,h2,h4,c4,if_true]
 |some mo=>
  dsimp only at h;generalize hm:bY e mo=vm at h;cases vm with
  |int km c=>
   obtain ⟨hc,h⟩:=iJ h;simp only [Bool.and_eq_true,decide_eq_true_eq] at hc;obtain ⟨⟨⟨c1,c2⟩,c3⟩,c4⟩:=hc;obtain ⟨l,h1,h2⟩:=yY hE (n:=0) ha rfl c1;obtain ⟨u,h3,h4⟩:=yY hE (n:=len) hb rfl (Int.le_trans c1 c2);have hc0:0<=c:=Int.le_trans (Int.le_trans c1 c2) c3;obtain ⟨c,rfl⟩:=Int.eq_ofNat_of_zero_le hc0
   refine iC.val hS h (EP he h1 h3 (m:=some c) (by simp only [K7,pA hE hm];rfl) ?_) ⟨esz,rfl,hat⟩
   rw [hx];have c5:(Nat.ble a.toNat b.toNat&&Nat.ble b.toNat c&&Nat.ble c cap)=true:=by
    have c4':(c:Int)<=(cap:Int):=c4
    simp;omega
   simp only [tZ,h2,h4,c5,if_true];rfl
  |_=>cases h
theorem aCz (hE:dW s e pe) (hS:cY s ps) {esz:Nat} {x:fZ} {lo hi mx:Option fZ} (h:oF e s z (.slc esz x lo hi mx) k ρ w=some y):iC s ps (bM pe ps z (.slc esz x lo hi mx)) k ρ w y:=by
 simp only [oF] at h;have hx:=eO hE x;unfold aO0 at h;generalize bY e x=v at h hx;cases v with
 |sl r l=>
  cases mx with
  |some _=>cases h
  |none=>
   dsimp only at h;obtain ⟨he,h⟩:=cV h;have he:=Nat.eq_of_beq_eq_true he;obtain ⟨a,ha,h⟩:=bP h;obtain ⟨b,hb,h⟩:=bP h;obtain ⟨m,hm,hk⟩:=dR h;obtain ⟨n1,n2,rfl,rfl,c1,c2,rfl⟩:=K8 hm;obtain ⟨u1,h1,h2⟩:=yY hE (n:=0) ha rfl (by simp)
   obtain ⟨u2,h3,h4⟩:=yY hE (n:=l.length) hb rfl (by simp)
   have hx':x.ev pe= .sl r.length false (l.map (RT.pv r)):=hx;subst he;refine iC.val hS (p:= .sl r.length false ((((l.drop n1).take (n2-n1))).map (RT.pv r))) hk (EP (m:=none) (by rw [hx'];simp [yL]) h1 h3 rfl ?_) rfl
   rw [hx'];have h2':u1.getD 0=n1:=by rw [h2];rfl
   have h4':u2.getD (l.map (RT.pv r)).length=n2:=by rw [List.length_map,h4];rfl
   have c3:(Nat.ble n1 n2&&Nat.ble n2 (l.map (RT.pv r)).length)=true:=by simp [c1,c2]
   simp only [tZ,h2',h4',c3,if_true,Bool.false_and,List.map_take,List.map_drop]
 |own t ex=>
  simp only [cR] at h;generalize hst:s[t]? =b at h;cases b with
  |none=>cases h
  |some b=>
   cases b with
   |arr r l=>
    dsimp only at h;obtain ⟨he,hk⟩:=cV h;have he:=Nat.eq_of_beq_eq_true he;obtain ⟨e',n',hx,hat⟩:=hx;obtain ⟨rfl,rfl⟩:=hat.inv hst;subst he;have hesz:D2 s t r.length:= .inl ⟨r,l,hst,rfl⟩;have gen:T7 e t 0 l.length l.length ex lo hi mx k ρ w=some y->iC s ps (bM pe ps z (.slc r.length x lo hi mx)) k ρ w y:=fun h=>O2 hE hS hx hesz h
    have he:yL r.length (x.ev pe)=true:=by rw [hx];simp [yL]
    cases mx with
    |some m=>cases lo<;>cases hi<;>exact gen hk
    |none=>
     cases lo with
     |some _=>cases hi<;>exact gen hk
     |none=>
      cases hi with
      |none=>
       refine iC.val hS hk (EP (l:=none) (h:=none) (m:=none) he rfl rfl rfl ?_) ⟨r.length,l.length,rfl,hat⟩;rw [hx];simp [tZ]
      |some ho=>
       dsimp only at hk;generalize hh:bY e ho=vh at hk;cases vh with
       |int kh b=>
        obtain ⟨m,hm,hk⟩:=dR hk;obtain ⟨n1,n2,h0,rfl,c1,c2,rfl⟩:=K8 hm;refine iC.val hS hk (EP (l:=none) (h:=some n2) (m:=none) he rfl (by simp only [K7,pA hE hh];rfl) rfl ?_) ⟨r.length,rfl,hesz⟩
        rw [hx];have c3:(Nat.ble 0 n2&&Nat.ble n2 l.length)=true:=by simp [c2]
        simp only [tZ,Option.getD_none,Option.getD_some,c3,if_true];rfl
       |_=>cases hk
   |_=>cases h
 |pre t len cap ex=>
  simp only [cR] at h;generalize hst:s[t]? =b at h;cases b with
  |none=>cases h
  |some b=>
   cases b with
   |arr r l=>
    dsimp only at h;obtain ⟨he,hk⟩:=cV h;have he:=Nat.eq_of_beq_eq_true he;obtain ⟨e',hx,hat⟩:=hx
    have:=hat.inv hst
    subst this;subst he;have gen:T7 e t 0 len cap ex lo hi mx k ρ w=some y->iC s ps (bM pe ps z (.slc r.length x lo hi mx)) k ρ w y:=fun h=>O2 hE hS hx hat h
    have he:yL r.length (x.ev pe)=true:=by rw [hx];simp [yL]
    cases mx with
    |some m=>cases lo<;>cases hi<;>exact gen hk
    |none=>
     cases lo with
     |some _=>cases hi<;>exact gen hk
     |none=>
      cases hi with
      |none=>
       obtain ⟨hlc,hk⟩:=iJ hk;refine iC.val hS hk (EP (l:=none) (h:=none) (m:=none) he rfl rfl rfl ?_) ⟨r.length,rfl,hat⟩;rw [hx];have c3:(Nat.ble 0 len&&Nat.ble len cap)=true:=by simp [hlc]
       simp only [tZ,Option.getD_none,c3,if_true];simp
      |some ho=>
       dsimp only at hk;generalize hh:bY e ho=vh at hk;cases vh with
       |int kh b=>
        obtain ⟨hc,hk⟩:=iJ hk;simp only [Bool.and_eq_true,decide_eq_true_eq] at hc;obtain ⟨c1,c2⟩:=hc;obtain ⟨b,rfl⟩:=Int.eq_ofNat_of_zero_le c1;refine iC.val hS hk (EP (l:=none) (h:=some b) (m:=none) he rfl (by simp only [K7,pA hE hh];rfl) rfl ?_) ⟨r.length,rfl,hat⟩
        rw [hx];have c3:(Nat.ble 0 b&&Nat.ble b cap)=true:=by
         have c2':(b:Int)<=(cap:Int):=c2
         simp;omega
        simp only [tZ,Option.getD_none,Option.getD_some,c3,if_true];rfl
       |_=>cases hk
   |_=>cases h
 |part t off len cap ex=>
  simp only [cR] at h;generalize hst:s[t]? =b at h;cases b with
  |none=>cases h
  |some b=>
   cases b with
   |arr r l=>
    dsimp only at h;obtain ⟨he,hk⟩:=cV h;have he:=Nat.eq_of_beq_eq_true he;obtain ⟨e',hx,hat⟩:=hx
    have:=hat.inv hst
    subst this;subst he;exact O2 hE hS hx hat hk
   |_=>cases h
 |_=>cases h
theorem vM {b:SB}:(s++[b])[s.length]? =some b:=by simp
theorem jD: ∀{v:PV} {p:PT},mO v=some p->p.pv p.zero=v
 | .int k n,p,h=>by
  simp only [mO] at h;split at h
  · injection h with h;subst h;rfl
  · cases h
 | .bool b,p,h=>by
  simp only [mO] at h;split at h
  · injection h with h;subst h;rfl
  · cases h
 | .undef,_,h| .nul,_,h| .str _,_,h| .agg _,_,h| .tup _,_,h| .sl _ _ _,_,h| .own _ _ _ _ _ _,_,h| .ptr _ _ _ _,_,h| .rptr _ _,_,h| .mp _,_,h| .clo _ _ _,_,h| .nilf,_,h=>by cases h
theorem FZ : ∀ {l : List PV} {r : List PT}, KV l = some r -> RT.pv r (RT.zero r) = l
  | [], r, h => by injection h with h; subst h; rfl
  | v :: vs, r, h => by
    simp only [KV] at h
    split at h
    · rename_i p q h1 h2
      injection h with h; subst h
      have e1 := jD h1
      have e2 := FZ h2
      cases q with
      | nil =>
        have : vs = [] := by
          cases vs with
          | nil => rfl
          | cons a b => simp only [RT.pv] at e2; cases e2
        subst this
        show [p.pv p.zero] = _
        rw [e1]
      | cons p2 q2 =>
        show p.pv p.zero :: RT.pv (p2 :: q2) (RT.zero (p2 :: q2)) = _
        rw [e1, e2]
    · cases h
theorem aCA (hE:dW s e pe) (hS:cY s ps) {esz:Nat} {zero:rD} {l c:fZ} (h:oF e s z (.mks esz zero l c) k ρ w=some y):iC s ps (bM pe ps z (.mks esz zero l c)) k ρ w y:=by
 simp only [oF] at h;generalize hl:bY e l=vl at h;cases vl with
 |int kl n=>
  generalize hc:bY e c=vc at h;cases vc with
  |int kc m=>
   obtain ⟨hnm,h1⟩:=iJ h;obtain ⟨r,hr,h2⟩:=bP h1;obtain ⟨he,h3⟩:=cV h2;obtain ⟨x,hx,hk⟩:=dR h3;have hnm:n=m:=by simpa using hnm
   subst hnm;have he:=Nat.eq_of_beq_eq_true he;subst he;unfold tJ at hx;split at hx
   · rename_i hc2
     injection hx with hx;subst hx;obtain ⟨a,rfl⟩:=Int.eq_ofNat_of_zero_le hc2.1;have h1:(Nat.ble a a&&Nat.ble a wL)=true:=by simp [wL];omega
     refine ⟨_,_,?_,jC.new hS (b:= .arr r (List.replicate (Int.ofNat a).toNat (RT.zero r))) (q:= .arr r.length (List.replicate a zero)) (v:= .own s.length true) (p:= .own s.length r.length 0 a a true) (rd:=[]) ?_ ?_,hk⟩
     · have e1:lT (.int kl (a:Int))=some a:=rfl
       have e2:lT (.int kc (a:Int))=some a:=rfl;simp only [bM,pA hE hl,pA hE hc,e1,e2];rw [if_pos h1,hS.len]
     · show _=_
       simp [FZ hr]
     · exact ⟨r.length,a,rfl,.inl ⟨r,_,vM,rfl,by simp⟩⟩
   · cases hx
  |_=>cases h
 |_=>cases h
def AD {α:Type}:List α->List (Nat×α)->List α
 |l,[]=>l
 |l,(i,a)::r=>AD (l.set i a) r
theorem K9 {α : Type} : ∀ (q : List (Nat × α)) (l : List α) (i : Nat), (AD l q)[i]? = (l[i]?).map fun z => IP i z q
  | [], l, i => by simp [AD, IP]
  | (j, a) :: q, l, i => by
    simp only [AD, IP]
    rw [K9 q (l.set j a) i, List.getElem?_set]
    by_cases hji : j = i
    · subst hji
      cases hl : l[j]? with
      | none =>
        have : ¬ j < l.length := by intro h; rw [List.getElem?_eq_getElem h] at hl; cases hl
        simp [this]
      | some z =>
        have : j < l.length := (List.getElem?_eq_some_iff.1 hl).1
        simp [this]
    · have : Nat.beq j i = false := by
        cases hb : Nat.beq j i with
        | false => rfl
        | true => exact absurd (Nat.eq_of_beq_eq_true hb) hji
      simp [hji, this]
theorem RK {α:Type} (f:Nat->α): ∀(n i j:Nat),(OW f i n)[j]? =if j<n then some (f (i+j)) else none
 |0,i,j=>by simp [OW]
 |n+1,i,0=>by simp [OW]
 |n+1,i,j+1=>by
  simp only [OW,List.getElem?_cons_succ];rw [RK f n (i+1) j,show i+1+j=i+(j+1) by omega]
  by_cases h:j<n
  · simp [h]
  · simp [h]
theorem LA {α:Type} (z:α) (n:Nat) (q:List (Nat×α)):AD (List.replicate n z) q=OW (fun i=>IP i z q) 0 n:=by
 apply List.ext_getElem?;intro i;rw [K9,RK]
 by_cases h:i<n
 · simp [h]
 · simp [h]
theorem LB (hE:dW s e pe) {r:List PT} {n:Nat}: ∀{parts:List (Nat×fZ)} {q:List (Nat×RT r)} {l:List (RT r)},WH r e n parts=some q->l.length=n->
 tB (parts.map fun p=>(p.1,p.2.ev pe)) (l.map (RT.pv r)) r.length=some ((AD l q).map (RT.pv r))
 | [],q,l,h,hl=>by injection h with h;subst h;rfl
 |p::parts,q,l,h,hl=>by
  simp only [WH] at h;split at h
  · rename_i a q' h1 h2
    cases hb:Nat.blt p.1 n with
    |false=>rw [hb] at h;cases h
    |true=>
     rw [hb] at h;injection h with h;subst h;have hp:=((eO hE p.2).ofRow h1).1;simp only [List.map_cons,tB,hp,RT.pv_len,List.length_map,hl,hb,Nat.beq_refl,Bool.and_self,if_true,AD];rw [<- List.map_set];exact LB hE h2 (by simp [hl])
  · cases h
theorem ZC (hE:dW s e pe) (hS:cY s ps) {esz n:Nat} {zero:rD} {parts:List (Nat×fZ)} (h:oF e s z (.mkrow esz n zero parts) k ρ w=some y):iC s ps (bM pe ps z (.mkrow esz n zero parts)) k ρ w y:=by
 simp only [oF] at h;obtain ⟨r,hr,h1⟩:=bP h;obtain ⟨he,h2⟩:=cV h1;obtain ⟨q,hq,hk⟩:=bP h2;have he:=Nat.eq_of_beq_eq_true he;subst he;have hf:=LB hE (l:=List.replicate n (RT.zero r)) hq (by simp)
 rw [LA] at hf;have hz:(List.replicate n (RT.zero r)).map (RT.pv r)=List.replicate n zero:=by simp [FZ hr]
 rw [hz] at hf;refine ⟨_,_,?_,jC.new hS (b:= .arr r (OW (fun i=>IP i (RT.zero r) q) 0 n)) (q:= .arr r.length ((OW (fun i=>IP i (RT.zero r) q) 0 n).map (RT.pv r))) (v:= .own s.length true) (p:= .own s.length r.length 0 n n true) (rd:=[]) rfl ?_,hk⟩
 · simp only [bM,hf,hS.len]
   rfl
 · refine ⟨r.length,n,rfl,.inl ⟨r,_,vM,rfl,?_⟩⟩
   rw [<- LA]
   have: ∀(q:List (Nat×RT r)) (l:List (RT r)),(AD l q).length=l.length:=by
    intro q
    induction q with
    |nil=>intro l;rfl
    |cons p q ih=>intro l;simp [AD,ih]
   rw [this];simp
theorem WW: ∀{cs:List SV} {q:List PV} {l:List Int},RL s cs q->WI cs=some l->q=l.map (.int .i64)
 | [],q,l,h,hi=>by injection hi with hi;subst hi;exact h
 |x::xs,q,l,h,hi=>by
  obtain ⟨p,q,rfl,h1,h2⟩:=h.cons_inv;simp only [WI] at hi;split at hi
  · rename_i n l' hx
    injection hi with hi;subst hi;rw [show p= .int .i64 n from h1,WW h2 hx];rfl
  · cases hi
theorem aAS {v:SV} {p:PV} {n:Option Nat} {l:List Int} (h:R s v p) (hk:aCm n v=some l):p=wQ l/\oB n (wQ l)=true/\(wQ l).storedPlain=some (wQ l).cells/\(wQ l).cells=l.map (.int .i64)/\(n=none->l.length=1)/\(∀m,n=some m->l.length=m/\m≠1):=by
 cases n with
 |none=>
  cases v with
  |int kk a=>
   cases kk with
   |i64=>
    injection hk with hk;subst hk;exact ⟨h,rfl,rfl,rfl,fun _=>rfl,fun m hm=>by cases hm⟩
   |_=>cases hk
  |_=>cases hk
 |some m=>
  cases v with
  |agg cs=>
   simp only [aCm] at hk;cases hc:(Nat.beq cs.length m&&!Nat.beq m 1) with
   |false=>rw [hc] at hk;cases hk
   |true=>
    rw [hc] at hk;simp only [cond_true] at hk;simp only [Bool.and_eq_true,Nat.beq_eq,Bool.not_eq_true'] at hc;obtain ⟨c1,c2⟩:=hc;obtain ⟨q,rfl,hq⟩:=h;have hq':=WW hq hk;have hlen:l.length=m:=by have:=hq.length;rw [hq'] at this;simp at this;omega
    have hm1:m≠1:=by intro e;subst e;cases c2
    have hkl:wQ l= .agg (l.map (.int .i64)):=by
     unfold wQ;split
     · simp at hlen;omega
     · rfl
    refine ⟨by rw [hkl,hq'],by rw [hkl];simp [oB,hlen],?_,by rw [hkl];rfl,(fun h=>(by cases h)),fun m' hm=>by injection hm with hm;subst hm;exact ⟨hlen,hm1⟩⟩
    rw [hkl];unfold PV.storedPlain;rw [if_pos];simp [PV.cells,PV.plain]
  |_=>cases hk
theorem AE: ∀(a b:List Int),a.length=b.length->dS (a.map (.int .i64)) (b.map (.int .i64))=some (a==b)
 | [],[],_=>rfl
 |x::a,y::b,h=>by
  have ih:=AE a b (by simpa using h)
  simp only [List.map_cons,dS,vF,RI,if_true];cases hxy:x==y with
  |true=>simp only [ih];simp [List.cons_beq_cons,hxy]
  |false=>simp [List.cons_beq_cons,hxy]
 | [],_::_,h=>by simp at h
 |_::_,[],h=>by simp at h
theorem HM {n : Option Nat} {a : List Int} (ha : (wQ a).cells = a.map (.int .i64)) (hn : (n = none -> a.length = 1) /\ (∀ m, n = some m -> a.length = m /\ m ≠ 1)) : ∀ (l : List (List Int)) (i : Nat), (∀ r, jA n (wQ a) (l.map FU) i = some r -> (match r with | none => JA l a = false | some j => i <= j /\ JA l a = true /\ l[j - i]? = some a))
  | [], i, r, h => by
    simp only [List.map_nil, jA, Option.some.injEq] at h
    subst h; rfl
  | b :: l, i, r, h => by
    simp only [List.map_cons, FU, jA] at h
    split at h
    · rename_i hk
      have hb : (wQ b).cells = b.map (.int .i64) /\ a.length = b.length := by
        cases n with
        | none =>
          have hl := hn.1 rfl
          unfold wQ at hk ⊢
          split at hk
          · exact ⟨rfl, by simpa using hl⟩
          · cases hk
        | some m =>
          obtain ⟨hl, hm⟩ := hn.2 m rfl
          unfold wQ at hk ⊢
          split at hk
          · cases hk
          · simp only [oB, List.length_map, Nat.beq_eq] at hk
            exact ⟨rfl, by omega⟩
      rw [ha, hb.1, AE a b hb.2] at h
      cases hab : a == b with
      | true =>
        rw [hab] at h
        injection h with h; subst h
        have : a = b := by simpa using hab
        subst this
        exact ⟨Nat.le_refl _, by simp [JA], by simp⟩
      | false =>
        rw [hab] at h
        have := HM ha hn l (i + 1) r h
        cases r with
        | none => simpa [JA, hab] using this
        | some j =>
          obtain ⟨h1, h2, h3⟩ := this
          refine ⟨by omega, by simp only [JA] at h2; simp [JA, h2], ?_⟩
          rw [show j - i = (j - (i + 1)) + 1 by omega]; simpa using h3
    · cases h
theorem F0 {n:Option Nat} {a:List Int} (ha:(wQ a).cells=a.map (.int .i64)) (hn:(n=none->a.length=1)/\(∀m,n=some m->a.length=m/\m≠1)) {l:List (List Int)} (hl:l.all (fun b=>oB n (wQ b))=true): ∀i,∃r,jA n (wQ a) (l.map FU) i=some r:=by
 induction l with
 |nil=>intro i;exact ⟨none,rfl⟩
 |cons b l ih=>
  intro i;simp only [List.all_cons,Bool.and_eq_true] at hl;obtain ⟨r,hr⟩:=ih hl.2 (i+1);simp only [List.map_cons,FU,jA,hl.1,if_true];have hb:(wQ b).cells=b.map (.int .i64)/\a.length=b.length:=by
   have hk:=hl.1;cases n with
   |none=>
    have hl':=hn.1 rfl;unfold wQ at hk ⊢;split at hk
    · exact ⟨rfl,by simpa using hl'⟩
    · cases hk
   |some m=>
    obtain ⟨hl',hm⟩:=hn.2 m rfl;unfold wQ at hk ⊢;split at hk
    · cases hk
    · simp only [oB,List.length_map,Nat.beq_eq] at hk
      exact ⟨rfl,by omega⟩
  rw [ha,hb.1,AE a b hb.2];cases hab:a==b with
  |true=>exact ⟨some i,rfl⟩
  |false=>exact ⟨r,hr⟩
theorem IT {n:Option Nat} {a:List Int} (hn:(n=none->a.length=1)/\(∀m,n=some m->a.length=m/\m≠1)) {l:List (List Int)} (hl: ∀b∈l,b.length=a.length):l.all (fun b=>oB n (wQ b))=true:=by
 rw [List.all_eq_true];intro b hb;have hlen:=hl b hb;cases n with
 |none=>
  have h1:=hn.1 rfl;rw [h1] at hlen
  match b,hlen with
  | [x],_=>rfl
 |some m=>
  obtain ⟨h1,h2⟩:=hn.2 m rfl;unfold wQ;split
  · rename_i x;simp at hlen;omega
  · simp [oB];omega
theorem F1 {a:List Int} {l:List (List Int)} (h:qC a l=true): ∀b∈l,b.length=a.length:=by
 intro b hb;exact Nat.eq_of_beq_eq_true (List.all_eq_true.1 h b hb)
theorem UE (hE:dW s e pe) (hS:cY s ps) {n:Option Nat} {zero:PV} {ok:Bool} {m q:fZ} (h:oF e s z (.lookup n zero ok m q) k ρ w=some y):iC s ps (bM pe ps z (.lookup n zero ok m q)) k ρ w y:=by
 simp only [oF] at h;cases zero with
 |bool b=>
  cases b with
  |true=>cases h
  |false=>
   cases ok with
   |true=>cases h
   |false=>
    dsimp only at h;have hx:=eO hE m;generalize bY e m=v at h hx;cases v with
    |mp t=>
     simp only [cR] at h;generalize hst:s[t]? =b at h;cases b with
     |none=>cases h
     |some b=>
      cases b with
      |set l=>
       obtain ⟨a,ha,h1⟩:=bP h;obtain ⟨b,hb,hk⟩:=dR h1;obtain ⟨k1,k2,k3,k4,k5⟩:=aAS (eO hE q) ha;unfold Q8 at hb;cases hlk:qC a l with
       |false=>rw [hlk] at hb;cases hb
       |true=>
        rw [hlk] at hb;injection hb with hb;subst hb;obtain ⟨r,hr⟩:=F0 k4 k5 (IT k5 (F1 hlk)) 0;have hf:=HM k4 k5 l 0 r hr;refine iC.rd hS hk ?_ rfl;show FB ps n (.bool false) false (m.ev pe) (q.ev pe)=_;rw [show m.ev pe=_ from hx,k1];simp only [FB,hS.set_ hst,k2,if_true,hr];cases r with
        |none=>simp only at hf;simp [hf]
        |some j=>
         obtain ⟨_,h2,h3⟩:=hf
         have:(l.map FU)[j]? =some (FU a):=by simp at h3;simp [h3]
         simp [this,h2,FU]
      |_=>cases h
    |_=>cases h
 |_=>cases h
theorem aAT (hE:dW s e pe) (hS:cY s ps) {n:Option Nat} {m q x:fZ} (h:oF e s z (.mapu n m q x) k ρ w=some y):iC s ps (bM pe ps z (.mapu n m q x)) k ρ w y:=by
 simp only [oF] at h;have hv:=eO hE x;generalize bY e x=u at h hv;cases u with
 |bool b=>
  cases b with
  |false=>cases h
  |true=>
   dsimp only at h;have hx:=eO hE m;generalize bY e m=v at h hx;cases v with
   |mp t=>
    simp only [cR] at h;generalize hst:s[t]? =b at h;cases b with
    |none=>cases h
    |some b=>
     cases b with
     |set l=>
      obtain ⟨hz,h0⟩:=yX h;obtain ⟨a,ha,h1⟩:=bP h0;obtain ⟨b,hb,hk⟩:=dR h1;obtain ⟨k1,k2,k3,k4,k5⟩:=aAS (eO hE q) ha;unfold Q9 at hb;cases hlk:qC a l with
      |false=>rw [hlk] at hb;cases hb
      |true=>
       rw [hlk] at hb;injection hb with hb;subst hb;obtain ⟨r,hr⟩:=F0 k4 k5 (IT k5 (F1 hlk)) 0;have hf:=HM k4 k5 l 0 r hr;refine ⟨_,_,?_,jC.put0 hS (b:= .set (T5 l a)) (q:= .map ((T5 l a).map FU)) (rd:=[]) hst trivial rfl,hk⟩;show QI ps z n (m.ev pe) (q.ev pe) (x.ev pe)=_;rw [show m.ev pe=_ from hx,k1,show x.ev pe= .bool true from hv]
       have p2:(PV.bool true).storedPlain=some [.bool true]:=rfl;simp only [QI,hS.set_ hst,k2,hz,Bool.not_false,Bool.and_self,if_true,k3,p2,hr];cases r with
       |none=>simp only at hf;simp [T5,hf,FU]
       |some j=>
        obtain ⟨_,h2,h3⟩:=hf;have h5:l[j]? =some a:=by simpa using h3
        have:(l.map FU).set j (wQ a,.bool true)=l.map FU:=by
         apply List.ext_getElem?;intro i;rw [List.getElem?_set];split
         · rename_i hij
           subst hij;have hlt:=(List.getElem?_eq_some_iff.1 h5).1;have h6:l[j]=a:=(List.getElem?_eq_some_iff.1 h5).2;simp [hlt,h6,FU]
         · rfl
        simp [T5,h2,this]
     |_=>cases h
   |_=>cases h
 |_=>cases h
theorem D2.fr' {s s':List SB} {bad:List Nat} {t e:Nat} (h:D2 s t e) (hf:Fr bad s s'):D2 s' t e:=by
 rcases h with ⟨r,l,h1,h2⟩|h1
 · rcases hf t _ h1 with ⟨l',k1,_,_⟩|k1
   · exact .inl ⟨r,l',k1,h2⟩
   · exact .inr k1
 · exact .inr (hf t _ h1)
theorem EQ {α:Type} {l r:List α} (h:cB l=some r):r=l/\l.length<=1048576:=by
 unfold cB at h;split at h
 · injection h with h;exact ⟨h.symm,by assumption⟩
 · cases h
theorem B5 {α:Type} {l m r:List α} (h:bH l m=some r):r=l++m/\l.length+m.length<=1048576:=by
 unfold bH at h;split at h
 · injection h with h;exact ⟨h.symm,by assumption⟩
 · cases h
theorem wZ: ∀(m l:List rD) (n:Nat),n+m.length<=l.length->mM n m l=fL l n m
 | [],l,n,h=>by simp [mM,fL]
 |a::m,l,n,h=>by
  simp only [List.length_cons] at h;rw [mM,wZ m (l.set n a) (n+1) (by simp;omega)]
  unfold fL;rw [List.take_set,List.drop_set];have hn:n<l.length:=by omega
  have h1: ¬(n+1+m.length<=n):=by omega
  rw [if_pos (by omega)]
  have:(l.take (n+1)).set n a=l.take n++[a]:=by
   rw [List.take_succ_eq_append_getElem hn,List.set_append_right _ _ (by simp;omega)]
   simp [Nat.min_eq_left (Nat.le_of_lt hn)]
  rw [this];simp only [List.append_assoc,List.cons_append,List.nil_append,List.length_cons];rw [show n+1+m.length=n+(m.length+1) by omega]
theorem LC {α β:Type} (f:α->β) (l m:List α) (n:Nat):(fL l n m).map f=fL (l.map f) n (m.map f):=by
 simp [fL,List.map_take,List.map_drop]
theorem F2 {α:Type} (l m:List α) (n:Nat) (h:n+m.length<=l.length):(fL l n m).length=l.length:=by
 simp [fL];omega
theorem UF (hE:dW s e pe) (hS:cY s ps) {esz:Nat} {x yy:fZ} (h:oF e s z (.append esz x yy) k ρ w=some y):iC s ps (bM pe ps z (.append esz x yy)) k ρ w y:=by
 simp only [oF] at h;have hx:=eO hE x;have hyv:=eO hE yy;unfold WJ at h;generalize bY e yy=vy at h hyv;cases hc:DZ s vy with
 |none=>rw [hc] at h;cases h
 |some cc=>
  obtain ⟨q,m⟩:=cc;rw [hc] at h;dsimp only at h;obtain ⟨he,h⟩:=cV h;have he:=Nat.eq_of_beq_eq_true he;obtain ⟨hro,htk⟩:=WU hS hyv hc;rw [he] at hro;have pe_app:bM pe ps z (.append esz x yy)=lG ps z esz (x.ev pe) (yy.ev pe):=rfl;generalize bY e x=v at h hx;cases v with
  |nil e' c=>
   dsimp only at h;obtain ⟨hcl,h⟩:=cV h;obtain ⟨m',hm',hk⟩:=dR h;obtain ⟨rfl,hle⟩:=EQ hm';refine ⟨_,_,?_,jC.new hS (b:= .arr q m') (q:= .arr esz (m'.map (RT.pv q))) (v:= .own s.length false) (p:= .own s.length esz 0 m'.length m'.length false) (rd:=zZ vy) (by rw [<- he];rfl) ⟨esz,m'.length,rfl,.inl ⟨q,m',vM,he.symm,rfl⟩⟩,hk⟩
   rw [pe_app];have hcl':c=true:=hcl;subst hcl';rw [show x.ev pe= .sl e' true [] from hx];unfold lG;rw [hro];cases m' with
   |nil=>simp [hS.len,htk]
   |cons a m'=>
    have h2:Nat.ble ((a::m').length) wL=true:=by simp [wL] at hle ⊢;omega
    simp only [List.length_cons] at h2;simp [hS.len,htk,h2]
  |own t ex=>
   dsimp only at h;simp only [cR] at h;generalize hst:s[t]? =b at h;cases b with
   |none=>cases h
   |some b=>
    cases b with
    |arr r l=>
     dsimp only at h;cases hca:B1 q r m with
     |none=>rw [hca] at h;cases h
     |some m2=>
      rw [hca] at h;dsimp only at h;obtain ⟨rfl,hmp,hml⟩:=FT hca;obtain ⟨e',n',hx,hat⟩:=hx;obtain ⟨rfl,rfl⟩:=hat.inv hst;rw [<- hmp] at hro;have harr:=hS.arr hst;cases ex with
      |true=>
       dsimp only at h;rcases fC h with ⟨hl,h⟩|⟨hl,h⟩
       · obtain ⟨m',hm',hk⟩:=dR h
         obtain ⟨rfl,hle⟩:=EQ hm';have hl:l=[]:=by simpa using hl
         subst hl;refine ⟨_,_,?_,jC.new hS (b:= .arr q m') (q:= .arr q.length (m'.map (RT.pv q))) (v:= .own s.length false) (p:= .own s.length q.length 0 m'.length m'.length false) (rd:=t::zZ vy) rfl ⟨q.length,m'.length,rfl,.inl ⟨q,m',vM,rfl,rfl⟩⟩,hk⟩;rw [pe_app,hx];unfold lG;rw [hro];subst he;cases m' with
         |nil=>simp [hS.len,htk]
         |cons a m'=>
          have h2:Nat.ble ((a::m').length) wL=true:=by simp [wL] at hle ⊢;omega
          simp only [List.length_cons] at h2;simp [hS.len,htk,h2,harr]
       · have hl:l≠[]:=by intro e;subst e;cases hl
         have hl0:l.length≠0:=by intro e;exact hl (List.length_eq_zero_iff.1 e)
         have hb0:Nat.beq l.length 0=false:=by
          cases hb:Nat.beq l.length 0 with
          |false=>rfl
          |true=>exact absurd (Nat.eq_of_beq_eq_true hb) hl0
         rcases fC h with ⟨hm,h⟩|⟨hm,h⟩
         · have hm:m2=[]:=by simpa using hm
           subst hm;refine iC.rd hS h ?_ ⟨_,_,rfl,hat⟩;rw [pe_app,hx];unfold lG;rw [hro];simp [hb0,htk]
         · obtain ⟨l',hl',hk⟩:=dR h
           obtain ⟨rfl,hle⟩:=B5 hl';refine ⟨_,_,?_,jC.new hS (b:= .arr q (l++m2)) (q:= .arr q.length ((l++m2).map (RT.pv q))) (v:= .own s.length false) (p:= .own s.length q.length 0 (l++m2).length (l++m2).length false) (rd:=t::zZ vy) rfl ⟨q.length,(l++m2).length,rfl,.inl ⟨q,l++m2,vM,rfl,rfl⟩⟩,hk⟩;rw [pe_app,hx];unfold lG;rw [hro];subst he;cases m2 with
           |nil=>cases hm
           |cons a m2=>
            have h2:Nat.ble (l.length+(a::m2).length) wL=true:=by simp [wL] at hle ⊢;omega
            have h3:Nat.ble (l.length+(m2.length+1)) l.length=false:=by
             cases hb:Nat.ble (l.length+(m2.length+1)) l.length with
             |false=>rfl
             |true=>have:=Nat.le_of_ble_eq_true hb;omega
            simp only [List.length_cons] at h2;simp [hS.len,htk,h2,h3,harr,List.take_of_length_le]
      |false=>
       dsimp only at h;rcases fC h with ⟨hm,h⟩|⟨hm,h⟩
       · have hm:m2=[]:=by simpa using hm
         subst hm;refine iC.rd hS h ?_ ⟨_,_,rfl,hat⟩;rw [pe_app,hx];unfold lG;rw [hro];simp [htk]
       · obtain ⟨hz,h⟩:=yX h
         obtain ⟨l',hl',hk⟩:=dR h;obtain ⟨rfl,hle⟩:=B5 hl';have hlen:(IQ [t] (s.set t .dead)).length=s.length:=by rw [FW];simp
         refine ⟨_,_,?_,jC.put hS (b:= .dead) (q:= .dead) (l:=[.arr q (l++m2)]) (ql:=[.arr q.length ((l++m2).map (RT.pv q))]) (v:= .own s.length false) (p:= .own s.length q.length 0 (l++m2).length (l++m2).length false) (rd:=zZ vy) hst (.inr rfl) rfl rfl
          (fun j b hj=>by
           cases j with
           |zero=>simp at hj;subst hj;exact ⟨_,rfl,rfl⟩
           |succ j=>simp at hj)
          ⟨q.length,(l++m2).length,rfl,.inl ⟨q,l++m2,by rw [<- hlen];exact vM,rfl,rfl⟩⟩,hk⟩
         rw [pe_app,hx];unfold lG;rw [hro];subst he;cases m2 with
         |nil=>cases hm
         |cons a m2=>
          have h2:Nat.ble (l.length+(a::m2).length) wL=true:=by simp [wL] at hle ⊢;omega
          have h3:Nat.ble (l.length+(m2.length+1)) l.length=false:=by
           cases hb:Nat.ble (l.length+(m2.length+1)) l.length with
           |false=>rfl
           |true=>have:=Nat.le_of_ble_eq_true hb;omega
          simp only [List.length_cons] at h2;simp [hS.len,htk,h2,h3,harr,hz,List.take_of_length_le]
    |_=>cases h
  |pre t len cap ex=>
   dsimp only at h;simp only [cR] at h;generalize hst:s[t]? =b at h;cases b with
   |none=>cases h
   |some b=>
    cases b with
    |arr r l=>
     dsimp only at h;cases hca:B1 q r m with
     |none=>rw [hca] at h;cases h
     |some m2=>
      rw [hca] at h;dsimp only at h;obtain ⟨rfl,hmp,hml⟩:=FT hca;obtain ⟨e',hx,hat⟩:=hx
      have:=hat.inv hst
      subst this;rw [<- hmp] at hro;have harr:=hS.arr hst;obtain ⟨hex,h⟩:=yX h;subst hex;rcases fC h with ⟨hm,h⟩|⟨hm,h⟩
      · have hm:m2=[]:=by simpa using hm
        subst hm;refine iC.rd hS h ?_ ⟨_,rfl,hat⟩;rw [pe_app,hx];unfold lG;rw [hro];simp [htk]
      · rcases fC h with ⟨c1,h⟩|⟨c1,h⟩
        · obtain ⟨hc2,hk⟩:=iJ h
          simp only [Bool.and_eq_true,Bool.not_eq_true'] at hc2;obtain ⟨c2,c3⟩:=hc2;have c2':=Nat.le_of_ble_eq_true c2
          refine ⟨_,_,?_,jC.put hS (b:= .arr q (fL l len m2)) (q:= .arr q.length ((fL l len m2).map (RT.pv q))) (l:=[]) (ql:=[]) (v:= .pre t (len+m2.length) cap false) (p:= .own t q.length 0 (len+m2.length) cap false) (rd:=zZ vy) hst (.inl ⟨_,rfl,F2 _ _ _ c2'⟩) rfl rfl
           (fun j b hj=>by simp at hj) ⟨q.length,rfl,?_⟩,hk⟩
          · rw [pe_app,hx]
            unfold lG;rw [hro];subst he;have hsr:mM (0+len) (m2.map (RT.pv q)) (l.map (RT.pv q))=(fL l len m2).map (RT.pv q):=by
             rw [wZ _ _ _ (by simp;omega),LC,Nat.zero_add]
            cases m2 with
            |nil=>cases hm
            |cons a m2=>
             simp only [List.length_cons] at c1;simp only [List.map_cons] at hsr ⊢;simp only [harr,Nat.beq_refl,Bool.not_true,Bool.false_eq_true,if_false,List.length_cons,List.length_map,c1,if_true,c3,hsr,htk]
          · have:=D2.fr' (s:=s) (s':=IQ [t] (s.set t (.arr q (fL l len m2)))++[]) hat ((Fr.dg (ts:=[t]) (Fr.set hst (.inl ⟨_,rfl,F2 _ _ _ c2'⟩))).trans (Fr.app [t] _ []))
            exact this
        · obtain ⟨hz0,h⟩:=yX h
          have hz:has z t=false:=by
           cases hh:has z t with
           |false=>rfl
           |true=>rw [hh] at hz0;cases hz0
          obtain ⟨l',hl',h⟩:=dR h;obtain ⟨hll,hk⟩:=iJ h;obtain ⟨hl'e,hle⟩:=B5 hl';subst hl'e;have hll':=Nat.le_of_ble_eq_true hll;have htl:(l.take len).length=len:=by rw [List.length_take];omega
          rw [htl] at hle;have hlen:(IQ [t] (s.set t .dead)).length=s.length:=by rw [FW];simp
          have hal:(l.take len++m2).length=len+m2.length:=by rw [List.length_append,htl]
          refine ⟨_,_,?_,jC.put hS (b:= .dead) (q:= .dead) (l:=[.arr q (l.take len++m2)]) (ql:=[.arr q.length ((l.take len++m2).map (RT.pv q))]) (v:= .own s.length false) (p:= .own s.length q.length 0 (l.take len++m2).length (l.take len++m2).length false) (rd:=zZ vy) hst (.inr rfl) rfl rfl
           (fun j b hj=>by
            cases j with
            |zero=>simp at hj;subst hj;exact ⟨_,rfl,rfl⟩
            |succ j=>simp at hj)
           ⟨q.length,(l.take len++m2).length,rfl,.inl ⟨q,l.take len++m2,by rw [<- hlen];exact vM,rfl,rfl⟩⟩,hk⟩
          rw [pe_app,hx];unfold lG;rw [hro];subst he;cases m2 with
          |nil=>cases hm
          |cons a m2=>
           have h2:Nat.ble (len+(m2.length+1)) wL=true:=by simp [wL] at hle ⊢;omega
           simp only [List.length_cons] at c1 hal;simp only [List.map_cons,List.length_cons,List.length_map,harr,Nat.beq_refl,Bool.not_true,Bool.false_eq_true,if_false,c1,h2,hz,hS.len,htk,hal,List.drop_zero,List.map_append,List.map_take]
    |_=>cases h
  |_=>cases h
end
end Go.Vm
/- Operation by operation: all of them. -/
namespace Go.Vm
section
variable {R' ρ : Type} {w : R' -> ρ} {y : ρ} {s : List SB} {ps : cX} {e : SE} {pe : wK} {z : List Nat} {k : iV -> jN R'}
theorem ZD (hE:dW s e pe) (hS:cY s ps) {esz:Nat} {zero:rD} {x:fZ} (h:oF e s z (.clear esz zero x) k ρ w=some y):iC s ps (bM pe ps z (.clear esz zero x)) k ρ w y:=by
 simp only [oF] at h;have hx:=eO hE x;unfold aAw at h;generalize bY e x=v at h hx;cases v with
 |part t off len cap ex=>
  simp only [cR] at h;generalize hst:s[t]? =b at h;cases b with
  |none=>cases h
  |some b=>
   cases b with
   |arr r l=>
    dsimp only at h;cases hq:KV zero with
    |none=>rw [hq] at h;cases h
    |some q=>
     rw [hq] at h;dsimp only at h;obtain ⟨hc,h1⟩:=cV h;simp only [Bool.and_eq_true] at hc;obtain ⟨hqr,he⟩:=hc;have hqr:=yW hqr;have he:=Nat.eq_of_beq_eq_true he;obtain ⟨e',hx,hat⟩:=hx
     have:=hat.inv hst
     subst this;subst hqr;subst he;rcases fC h1 with ⟨hl,hk⟩|⟨hl,hk⟩
     · have hl:=Nat.eq_of_beq_eq_true hl
       subst hl;exact iC.val hS hk (by simp only [bM,hx]) rfl
     · obtain ⟨hc2,hk⟩:=iJ hk
       simp only [Bool.and_eq_true,Bool.not_eq_true'] at hc2;obtain ⟨c1,c2⟩:=hc2;have c1':=Nat.le_of_ble_eq_true c1;have hlen:=F2 l (List.replicate len (RT.zero q)) off (by simpa using c1')
       refine ⟨_,_,?_,jC.put0 hS (b:= .arr q (fL l off (List.replicate len (RT.zero q)))) (q:= .arr q.length ((fL l off (List.replicate len (RT.zero q))).map (RT.pv q))) (rd:=[]) hst (.inl ⟨_,rfl,hlen⟩) rfl,hk⟩;cases len with
       |zero=>cases hl
       |succ len=>
        have hsr:mM off (List.replicate (len+1) zero) (l.map (RT.pv q))=(fL l off (List.replicate (len+1) (RT.zero q))).map (RT.pv q):=by
         rw [LC,wZ _ _ _ (by simpa using c1')]
         simp [FZ hq]
        simp only [bM,hx,hS.arr hst,Nat.beq_refl,c2,Bool.not_false,Bool.and_self,if_true,hsr]
   |_=>cases h
 |_=>cases h
theorem ES (hS:cY s ps) {t off len cap:Nat} {ex:Bool} {r:List PT} {l:List (RT r)} {x yy:fZ} {vy:SV} (hst:s[t]? =some (.arr r l)) (hx:x.ev pe= .own t r.length off len cap ex) (hyv:R s vy (yy.ev pe))
 (h:KW s z t r l off len vy k ρ w=some y):iC s ps (bM pe ps z (.copy r.length x yy)) k ρ w y:=by
 unfold KW at h;cases hc:DZ s vy with
 |none=>rw [hc] at h;cases h
 |some cc=>
  obtain ⟨q,m⟩:=cc;rw [hc] at h;dsimp only at h;cases hca:B1 q r m with
  |none=>rw [hca] at h;cases h
  |some m2=>
   rw [hca] at h;dsimp only at h;obtain ⟨hqr,hmp,hml⟩:=FT hca;subst hqr;obtain ⟨hro,htk⟩:=WU hS hyv hc;rw [<- hmp] at hro;have htake:(m2.map (RT.pv q)).take len=(m2.take len).map (RT.pv q):=by rw [List.map_take]
   generalize m2.take len=mm at h htake;rcases fC h with ⟨hm,hk⟩|⟨hm,hk⟩
   · have hm:mm=[]:=by simpa using hm
     subst hm;refine iC.rd hS hk ?_ rfl;simp only [bM,hro,hx,htake,List.map_nil,htk]
   · obtain ⟨hc2,hk⟩:=iJ hk
     simp only [Bool.and_eq_true,Bool.not_eq_true'] at hc2;obtain ⟨c1,c2⟩:=hc2;have c1':=Nat.le_of_ble_eq_true c1;have hlen:=F2 l mm off c1'
     refine ⟨_,_,?_,jC.put hS (b:= .arr q (fL l off mm)) (q:= .arr q.length ((fL l off mm).map (RT.pv q))) (l:=[]) (ql:=[]) (v:= .int .i64 (.ofNat mm.length)) (p:= .int .i64 (.ofNat mm.length)) (rd:=zZ vy) hst (.inl ⟨_,rfl,hlen⟩) rfl rfl (fun j b hj=>by simp at hj) rfl,hk⟩
     have hsr:mM off (mm.map (RT.pv q)) (l.map (RT.pv q))=(fL l off mm).map (RT.pv q):=by
      rw [LC,wZ _ _ _ (by simpa using c1')]
     cases mm with
     |nil=>cases hm
     |cons a mm=>
      simp only [List.map_cons] at hsr htake;simp only [bM,hro,hx,htake,hS.arr hst,Nat.beq_refl,c2,Bool.not_false,Bool.and_self,if_true,hsr,htk,List.length_map,List.length_cons]
theorem aAU (hE:dW s e pe) (hS:cY s ps) {esz:Nat} {x yy:fZ} (h:oF e s z (.copy esz x yy) k ρ w=some y):iC s ps (bM pe ps z (.copy esz x yy)) k ρ w y:=by
 simp only [oF] at h;have hx:=eO hE x;have hyv:=eO hE yy;unfold aII at h;generalize bY e yy=vy at h hyv;generalize bY e x=v at h hx;cases v with
 |own t ex=>
  simp only [cR] at h;generalize hst:s[t]? =b at h;cases b with
  |none=>cases h
  |some b=>
   cases b with
   |arr r l=>
    obtain ⟨he,hk⟩:=cV h;have he:=Nat.eq_of_beq_eq_true he;subst he;obtain ⟨e',n',hx,hat⟩:=hx;obtain ⟨rfl,rfl⟩:=hat.inv hst;exact ES hS hst hx hyv hk
   |_=>cases h
 |pre t len cap ex=>
  simp only [cR] at h;generalize hst:s[t]? =b at h;cases b with
  |none=>cases h
  |some b=>
   cases b with
   |arr r l=>
    obtain ⟨he,hk⟩:=cV h;have he:=Nat.eq_of_beq_eq_true he;subst he;obtain ⟨e',hx,hat⟩:=hx
    have:=hat.inv hst
    subst this;exact ES hS hst hx hyv hk
   |_=>cases h
 |part t off len cap ex=>
  simp only [cR] at h;generalize hst:s[t]? =b at h;cases b with
  |none=>cases h
  |some b=>
   cases b with
   |arr r l=>
    obtain ⟨he,hk⟩:=cV h;have he:=Nat.eq_of_beq_eq_true he;subst he;obtain ⟨e',hx,hat⟩:=hx
    have:=hat.inv hst
    subst this;exact ES hS hst hx hyv hk
   |_=>cases h
 |_=>cases h
theorem aCB (hE:dW s e pe) (hS:cY s ps) {op:nL} (h:oF e s z op k ρ w=some y):iC s ps (bM pe ps z op) k ρ w y:=by
 cases op with
 |mov x=>exact iC.val hS h rfl (eO hE x)
 |pick c a b=>exact aAO hE hS h
 |bin op a b=>exact aCq hE hS h
 |binb n a b=>exact aAJ hE hS h
 |eqc n g a b=>exact aCr hE hS h
 |un op a=>exact aJa hE hS h
 |conv a x=>exact aAL hE hS h
 |len x=>exact aCs hE hS h
 |lenc n=>exact iC.val hS h rfl rfl
 |box x=>exact aCt hE hS h
 |alloc c=>exact Y9 hS h
 |build z p=>exact Y8 hE hS h
 |mkrow a b c d=>exact ZC hE hS h
 |load a p=>exact aAR hE hS h
 |store a p x=>exact ZB hE hS h
 |nilc x=>exact aAM hE hS h
 |fadr o x=>exact aAN hE hS h
 |fld a o x=>exact aCu hE hS h
 |iadr a x i=>exact aAP hE hS h
 |iadra n a x i=>exact ZA hE hS h
 |idx n a g x i=>exact aCy hE hS h
 |sidx x i=>exact aAQ hE hS h
 |slc a x l h' m=>exact aCz hE hS h
 |mks a z l c=>exact aCA hE hS h
 |mkf f a b=>exact aCw hE hS h
 |mkm=>exact aCx hS h
 |lookup n z o m q=>exact UE hE hS h
 |mapu n m q x=>exact aAT hE hS h
 |ext i x=>exact aCv hE hS h
 |append a x b=>exact UF hE hS h
 |copy a x b=>exact aAU hE hS h
 |clear a z x=>exact ZD hE hS h
 |mm m x xs=>exact aJb hE hS h
 |call m f a=>cases h
 |callv x a=>cases h
 |bad=>cases h
mutual
theorem aO2 {bx:Nat->Option (List SV)} {pbx:Nat->Option (List PV)} (hS:cY s ps) (hb: ∀t l,bx t=some l-> ∃q,pbx t=some q/\pvL l=some q): ∀{v u:SV} {p:PV},R s v p->QG s bx v=some u-> ∃q,G3 ps pbx p=some q/\vL u=some q
 | .int k n,u,p,h,hx=>by injection hx with hx;subst hx;rw [show p=_ from h];exact ⟨_,rfl,rfl⟩
 | .bool b,u,p,h,hx=>by injection hx with hx;subst hx;rw [show p=_ from h];exact ⟨_,rfl,rfl⟩
 | .str x,u,p,h,hx=>by injection hx with hx;subst hx;rw [show p=_ from h];exact ⟨_,rfl,rfl⟩
 | .nilf,u,p,h,hx=>by injection hx with hx;subst hx;rw [show p=_ from h];exact ⟨_,rfl,rfl⟩
 | .agg cs,u,p,h,hx=>by
  obtain ⟨q,rfl,h⟩:=h;simp only [QG] at hx;split at hx
  · rename_i l hl
    injection hx with hx;subst hx;obtain ⟨q',h1,h2⟩:=exVL_R hS hb h hl;exact ⟨.agg q',by simp only [G3,h1];rfl,by simp only [vL,h2]⟩
  · cases hx
 | .tup cs,u,p,h,hx=>by
  obtain ⟨q,rfl,h⟩:=h;simp only [QG] at hx;split at hx
  · rename_i l hl
    injection hx with hx;subst hx;obtain ⟨q',h1,h2⟩:=exVL_R hS hb h hl;exact ⟨.tup q',by simp only [G3,h1];rfl,by simp only [vL,h2]⟩
  · cases hx
 | .sl r l,u,p,h,hx=>by injection hx with hx;subst hx;rw [show p=_ from h];exact ⟨_,rfl,rfl⟩
 | .nil e c,u,p,h,hx=>by injection hx with hx;subst hx;rw [show p=_ from h];exact ⟨_,rfl,rfl⟩
 | .own t ex,u,p,h,hx=>by
  simp only [QG,cR] at hx;split at hx
  · rename_i r l hst
    injection hx with hx;subst hx;obtain ⟨e,n,rfl,hat⟩:=h;obtain ⟨rfl,rfl⟩:=hat.inv hst;refine ⟨.sl r.length false (l.map (RT.pv r)),?_,rfl⟩;simp only [G3,hS.arr hst,List.drop_zero];rw [List.take_of_length_le (by simp)]
  · cases hx
 | .pre t len cap ex,u,p,h,hx=>by
  simp only [QG,cR] at hx;split at hx
  · rename_i r l hst
    injection hx with hx;subst hx;obtain ⟨e,rfl,hat⟩:=h
    have:=hat.inv hst
    subst this;refine ⟨.sl r.length false ((l.take len).map (RT.pv r)),?_,rfl⟩;simp only [G3,hS.arr hst,List.drop_zero,List.map_take]
  · cases hx
 | .part t off len cap ex,u,p,h,hx=>by
  simp only [QG,cR] at hx;split at hx
  · rename_i r l hst
    injection hx with hx;subst hx;obtain ⟨e,rfl,hat⟩:=h
    have:=hat.inv hst
    subst this;refine ⟨.sl r.length false (((l.drop off).take len).map (RT.pv r)),?_,rfl⟩;simp only [G3,hS.arr hst,List.map_take,List.map_drop]
  · cases hx
 | .pa t r i a off,u,p,h,hx=>by
  simp only [QG,cR] at hx;split at hx
  · rename_i q l hst
    injection hx with hx;subst hx;obtain ⟨rfl,hat⟩:=h;obtain ⟨rfl,hg⟩:=hat.inv hst;obtain ⟨m,rfl,hm⟩:=pH hg;refine ⟨.rptr (RT.pv r a) off,?_,by simp only [vL,RT.pv_sv]⟩
    have hm':(l.map (RT.pv r))[m]? =some (RT.pv r a):=by simp [hm]
    have e1:(Int.ofNat m).toNat=m:=rfl;simp only [G3,hS.arr hst,e1,hm'];rfl
  · cases hx
 | .bp t n off,u,p,h,hx=>by
  simp only [QG,cR] at hx;split at hx
  · rename_i cs hst
    split at hx
    · rename_i l hl
      injection hx with hx;subst hx;rw [show p=_ from h];obtain ⟨q,h1,h2⟩:=hb t l hl;obtain ⟨c,h3,_⟩:=hS.box hst;refine ⟨.rptr q off,?_,by simp only [vL,h2]⟩
      simp only [G3,h3,Nat.beq_refl,if_true,h1];rfl
    · cases hx
  · cases hx
 | .rptr cs off,u,p,h,hx=>by
  obtain ⟨q,rfl,h⟩:=h;simp only [QG] at hx;split at hx
  · rename_i l hl
    injection hx with hx;subst hx;obtain ⟨q',h1,h2⟩:=exVL_R hS hb h hl;exact ⟨.rptr q' off,by simp only [G3,h1];rfl,by simp only [vL,h2]⟩
  · cases hx
 | .clo f a b,u,p,h,hx=>by
  obtain ⟨pa,pb,rfl,h1,h2⟩:=h;simp only [QG] at hx;split at hx
  · rename_i x y' h3 h4
    injection hx with hx;subst hx;obtain ⟨qa,h5,h6⟩:=exVL_R hS hb h1 h3;obtain ⟨qb,h7,h8⟩:=exVL_R hS hb h2 h4;exact ⟨.clo f qa qb,by simp only [G3,h5,h7],by simp only [vL,h6,h8]⟩
  · cases hx
 | .junk,_,_,_,hx| .undef,_,_,_,hx| .nul,_,_,_,hx| .pb _ _ _,_,_,_,hx| .mp _,_,_,_,hx=>by cases hx
theorem exVL_R {bx:Nat->Option (List SV)} {pbx:Nat->Option (List PV)} (hS:cY s ps) (hb: ∀t l,bx t=some l-> ∃q,pbx t=some q/\pvL l=some q): ∀{v u:List SV} {p:List PV},RL s v p->exVL s bx v=some u-> ∃q,exL ps pbx p=some q/\pvL u=some q
 | [],u,p,h,hx=>by injection hx with hx;subst hx;rw [show p=_ from h];exact ⟨_,rfl,rfl⟩
 |x::xs,u,p,h,hx=>by
  obtain ⟨q,qs,rfl,h1,h2⟩:=h.cons_inv;simp only [exVL] at hx;split at hx
  · rename_i y' ys h3 h4
    injection hx with hx;subst hx;obtain ⟨a,h5,h6⟩:=aO2 hS hb h1 h3;obtain ⟨as,h7,h8⟩:=exVL_R hS hb h2 h4;exact ⟨a::as,by simp only [exL,h5,h7],eL.2 ⟨a,as,rfl,h6,h8⟩⟩
  · cases hx
end
theorem JN (hS:cY s ps): ∀(n t:Nat) (l:List SV),oG s n t=some l-> ∃q,BN ps n t=some q/\pvL l=some q
 |0,t,l,h=>by cases h
 |n+1,t,l,h=>by
  simp only [oG,cR] at h;split at h
  · rename_i cs hst
    obtain ⟨q,h1,h2⟩:=hS.box hst;obtain ⟨u,h3,h4⟩:=exVL_R hS (JN hS n) h2 h;exact ⟨u,by simp only [BN,h1,h3],h4⟩
  · cases h
mutual
theorem aAV {bx pbx:Nat->List Nat} (hb: ∀t,bx t=pbx t): ∀{v:SV} {p:PV},R s v p->v.sure=true->WK bx v=jU pbx p
 | .junk,_,_,h=>by cases h
 | .undef,p,h,_| .nul,p,h,_| .nilf,p,h,_| .int _ _,p,h,_| .bool _,p,h,_| .str _,p,h,_| .sl _ _,p,h,_| .nil _ _,p,h,_=>by rw [show p=_ from h];rfl
 | .agg cs,p,h,hs=>by obtain ⟨q,rfl,h⟩:=h;exact tkVL_R hb h hs
 | .tup cs,p,h,hs=>by obtain ⟨q,rfl,h⟩:=h;exact tkVL_R hb h hs
 | .own t ex,p,h,_=>by obtain ⟨e,n,rfl,_⟩:=h;rfl
 | .pre t a b c,p,h,_=>by obtain ⟨e,rfl,_⟩:=h;rfl
 | .part t o a b c,p,h,_=>by obtain ⟨e,rfl,_⟩:=h;rfl
 | .pa t r i a o,p,h,_=>by obtain ⟨rfl,_⟩:=h;simp only [WK,jU,hb]
 | .pb t i o,p,h,_=>by obtain ⟨e,rfl,_⟩:=h;simp only [WK,jU,hb]
 | .bp t n o,p,h,_=>by rw [show p=_ from h];simp only [WK,jU,hb]
 | .rptr cs o,p,h,hs=>by obtain ⟨q,rfl,h⟩:=h;exact tkVL_R hb h hs
 | .mp t,p,h,_=>by rw [show p=_ from h];rfl
 | .clo f a b,p,h,hs=>by
  obtain ⟨pa,pb,rfl,h1,h2⟩:=h;simp only [SV.sure,Bool.and_eq_true] at hs;simp only [WK,jU,tkVL_R hb h1 hs.1,tkVL_R hb h2 hs.2]
theorem tkVL_R {bx pbx:Nat->List Nat} (hb: ∀t,bx t=pbx t): ∀{v:List SV} {p:List PV},RL s v p->sureL v=true->tkVL bx v=toksL pbx p
 | [],p,h,_=>by rw [show p=_ from h];rfl
 |x::xs,p,h,hs=>by
  obtain ⟨q,qs,rfl,h1,h2⟩:=h.cons_inv;simp only [sureL,Bool.and_eq_true] at hs;simp only [tkVL,toksL,aAV hb h1 hs.1,tkVL_R hb h2 hs.2]
end
end
end Go.Vm
/- The head of a loop: what the typed machine keeps there, the logical machine keeps there. -/
namespace Go.Vm
section
variable {s : List SB} {ps : cX}
mutual
theorem aRz {n:Nat} (hS:cY s ps) (hB: ∀t l,oG s n t=some l->EK s n t=dO ps n t): ∀{v u:SV} {p:PV},R s v p->QG s (oG s n) v=some u->WK (EK s n) v=jU (dO ps n) p
 | .int _ _,_,p,h,_| .bool _,_,p,h,_| .str _,_,p,h,_| .nilf,_,p,h,_| .sl _ _,_,p,h,_| .nil _ _,_,p,h,_=>by rw [show p=_ from h];rfl
 | .agg cs,u,p,h,hx=>by
  obtain ⟨q,rfl,h⟩:=h;simp only [QG] at hx;split at hx
  · rename_i l hl;exact tkExL hS hB h hl
  · cases hx
 | .tup cs,u,p,h,hx=>by
  obtain ⟨q,rfl,h⟩:=h;simp only [QG] at hx;split at hx
  · rename_i l hl;exact tkExL hS hB h hl
  · cases hx
 | .own t ex,_,p,h,_=>by obtain ⟨e,n,rfl,_⟩:=h;rfl
 | .pre t a b c,_,p,h,_=>by obtain ⟨e,rfl,_⟩:=h;rfl
 | .part t o a b c,_,p,h,_=>by obtain ⟨e,rfl,_⟩:=h;rfl
 | .pa t r i a o,_,p,h,hx=>by
  obtain ⟨rfl,hat⟩:=h;simp only [QG,cR] at hx;split at hx
  · rename_i q l hst
    simp only [WK,jU];cases n with
    |zero=>rfl
    |succ n=>simp only [EK,dO,cR,hst,hS.arr hst]
  · cases hx
 | .bp t m o,u,p,h,hx=>by
  rw [show p=_ from h];simp only [QG,cR] at hx;split at hx
  · split at hx
    · rename_i l hl
      simp only [WK,jU,hB t l hl]
    · cases hx
  · cases hx
 | .rptr cs o,u,p,h,hx=>by
  obtain ⟨q,rfl,h⟩:=h;simp only [QG] at hx;split at hx
  · rename_i l hl;exact tkExL hS hB h hl
  · cases hx
 | .clo f a b,u,p,h,hx=>by
  obtain ⟨pa,pb,rfl,h1,h2⟩:=h;simp only [QG] at hx;split at hx
  · rename_i x y h3 h4
    simp only [WK,jU,tkExL hS hB h1 h3,tkExL hS hB h2 h4]
  · cases hx
 | .junk,_,_,_,hx| .undef,_,_,_,hx| .nul,_,_,_,hx| .pb _ _ _,_,_,_,hx| .mp _,_,_,_,hx=>by cases hx
theorem tkExL {n:Nat} (hS:cY s ps) (hB: ∀t l,oG s n t=some l->EK s n t=dO ps n t): ∀{v u:List SV} {p:List PV},RL s v p->exVL s (oG s n) v=some u->tkVL (EK s n) v=toksL (dO ps n) p
 | [],_,p,h,_=>by rw [show p=_ from h];rfl
 |x::xs,u,p,h,hx=>by
  obtain ⟨q,qs,rfl,h1,h2⟩:=h.cons_inv;simp only [exVL] at hx;split at hx
  · rename_i a b h3 h4
    simp only [tkVL,toksL,aRz hS hB h1 h3,tkExL hS hB h2 h4]
  · cases hx
end
theorem LD (hS:cY s ps): ∀(n t:Nat) (l:List SV),oG s n t=some l->EK s n t=dO ps n t
 |0,t,l,h=>rfl
 |n+1,t,l,h=>by
  simp only [oG,cR] at h;split at h
  · rename_i cs hst
    obtain ⟨q,h1,h2⟩:=hS.box hst;simp only [EK,dO,cR,hst,h1];exact tkExL hS (LD hS n) h2 h
  · cases h
theorem O3 {b:SB} {q:mL} (h:RB s b q) (hs:C0 b=true):KX b=uK q:=by
 cases b with
 |box cs=>obtain ⟨c,rfl,h⟩:=h;exact tkVL_R (fun _=>rfl) h hs
 |arr r l=>rw [show q=_ from h];rfl
 |set l=>rw [show q=_ from h];rfl
 |dead=>rw [show q=_ from h];rfl
theorem LE (hS:cY s ps): ∀(n:Nat) (ts seen m:List Nat),HJ s n ts seen=some m->FC ps n ts seen=some m
 |n,[],seen,m,h=>by
  cases n<;>(simp only [HJ] at h;exact h)
 |0,_::_,_,_,h=>by cases h
 |n+1,t::ts,seen,m,h=>by
  simp only [HJ,cR] at h;simp only [FC];cases hh:has seen t with
  |true=>rw [hh] at h;simp only [cond_true] at h;simp only [if_true];exact LE hS n ts seen m h
  |false=>
   rw [hh] at h;simp only [cond_false] at h;simp only [Bool.false_eq_true,if_false];split at h
   · rename_i b hst
     obtain ⟨q,h1,h2⟩:=hS.at_ t b hst;cases hb:C0 b with
     |false=>rw [hb] at h;cases h
     |true=>
      rw [hb] at h;simp only [cond_true] at h;rw [h1,O3 h2 hb] at*;exact LE hS n _ _ m h
   · cases h
theorem LF: ∀{t u:Nat} {m:List Nat},tC t m=some u->m[u]? =some t
 |t,u,[],h=>by cases h
 |t,u,x::m,h=>by
  simp only [tC] at h;cases hb:Nat.beq x t with
  |true=>rw [hb] at h;simp at h;subst h;simp [Nat.eq_of_beq_eq_true hb]
  |false=>
   rw [hb] at h;simp only [Bool.false_eq_true,if_false,Option.map_eq_some_iff] at h;obtain ⟨v,hv,rfl⟩:=h;simpa using LF hv
def LG (m:List Nat) (s s':List SB):Prop:= ∀(t u:Nat) (b:SB),tC t m=some u->s[t]? =some b->match b with
 | .arr r l=>s'[u]? =some (.arr r l)
 | .dead=>s'[u]? =some .dead
 |_=>True
mutual
theorem aAW {m:List Nat} {s':List SB} (hr:LG m s s'): ∀{v u:SV} {p:PV},R s v p->tL m v=some u-> ∃q,ren m p=some q/\R s' u q
 | .junk,_,_,_,hx=>by cases hx
 | .undef,u,p,h,hx| .nul,u,p,h,hx| .nilf,u,p,h,hx| .int _ _,u,p,h,hx| .bool _,u,p,h,hx| .str _,u,p,h,hx| .sl _ _,u,p,h,hx| .nil _ _,u,p,h,hx=>by
  injection hx with hx;subst hx;rw [show p=_ from h];exact ⟨_,rfl,rfl⟩
 | .agg cs,u,p,h,hx=>by
  obtain ⟨q,rfl,h⟩:=h;simp only [tL] at hx;split at hx
  · rename_i l hl
    injection hx with hx;subst hx;obtain ⟨q',h1,h2⟩:=renVL_R hr h hl;exact ⟨.agg q',by simp only [ren,h1];rfl,q',rfl,h2⟩
  · cases hx
 | .tup cs,u,p,h,hx=>by
  obtain ⟨q,rfl,h⟩:=h;simp only [tL] at hx;split at hx
  · rename_i l hl
    injection hx with hx;subst hx;obtain ⟨q',h1,h2⟩:=renVL_R hr h hl;exact ⟨.tup q',by simp only [ren,h1];rfl,q',rfl,h2⟩
  · cases hx
 | .own t ex,u,p,h,hx=>by
  obtain ⟨e,n,rfl,hat⟩:=h;simp only [tL] at hx;split at hx
  · rename_i v hv
    injection hx with hx;subst hx;refine ⟨.own v e 0 n n ex,by simp only [ren,hv];rfl,e,n,rfl,?_⟩
    rcases hat with ⟨r,l,h1,h2,h3⟩|h1
    · exact .inl ⟨r,l,hr t v _ hv h1,h2,h3⟩
    · exact .inr (hr t v _ hv h1)
  · cases hx
 | .pre t len cap ex,u,p,h,hx=>by
  obtain ⟨e,rfl,hat⟩:=h;simp only [tL] at hx;split at hx
  · rename_i v hv
    injection hx with hx;subst hx;refine ⟨.own v e 0 len cap ex,by simp only [ren,hv];rfl,e,rfl,?_⟩
    rcases hat with ⟨r,l,h1,h2⟩|h1
    · exact .inl ⟨r,l,hr t v _ hv h1,h2⟩
    · exact .inr (hr t v _ hv h1)
  · cases hx
 | .part t off len cap ex,u,p,h,hx=>by
  obtain ⟨e,rfl,hat⟩:=h;simp only [tL] at hx;split at hx
  · rename_i v hv
    injection hx with hx;subst hx;refine ⟨.own v e off len cap ex,by simp only [ren,hv];rfl,e,rfl,?_⟩
    rcases hat with ⟨r,l,h1,h2⟩|h1
    · exact .inl ⟨r,l,hr t v _ hv h1,h2⟩
    · exact .inr (hr t v _ hv h1)
  · cases hx
 | .pa t r i a off,u,p,h,hx=>by
  obtain ⟨rfl,hat⟩:=h;simp only [tL] at hx;split at hx
  · rename_i v hv
    injection hx with hx;subst hx;refine ⟨.ptr v r.length i.toNat off,by simp only [ren,hv];rfl,r.length,rfl,?_⟩
    rcases hat with ⟨l,h1,h2⟩|h1
    · exact .inl ⟨r,l,hr t v _ hv h1,by rw [h2];rfl⟩
    · exact .inr (hr t v _ hv h1)
  · cases hx
 | .pb t i off,u,p,h,hx=>by
  obtain ⟨e,rfl,hat⟩:=h;simp only [tL] at hx;split at hx
  · rename_i v hv
    injection hx with hx;subst hx;refine ⟨.ptr v e i.toNat off,by simp only [ren,hv];rfl,e,rfl,?_⟩
    rcases hat with ⟨r,l,h1,h2⟩|h1
    · exact .inl ⟨r,l,hr t v _ hv h1,h2⟩
    · exact .inr (hr t v _ hv h1)
  · cases hx
 | .bp t n off,u,p,h,hx=>by
  rw [show p=_ from h];simp only [tL] at hx;split at hx
  · rename_i v hv
    injection hx with hx;subst hx;exact ⟨.ptr v n 0 off,by simp only [ren,hv];rfl,rfl⟩
  · cases hx
 | .rptr cs off,u,p,h,hx=>by
  obtain ⟨q,rfl,h⟩:=h;simp only [tL] at hx;split at hx
  · rename_i l hl
    injection hx with hx;subst hx;obtain ⟨q',h1,h2⟩:=renVL_R hr h hl;exact ⟨.rptr q' off,by simp only [ren,h1];rfl,q',rfl,h2⟩
  · cases hx
 | .mp t,u,p,h,hx=>by
  rw [show p=_ from h];simp only [tL] at hx;split at hx
  · rename_i v hv
    injection hx with hx;subst hx;exact ⟨.mp v,by simp only [ren,hv];rfl,rfl⟩
  · cases hx
 | .clo f a b,u,p,h,hx=>by
  obtain ⟨pa,pb,rfl,h1,h2⟩:=h;simp only [tL] at hx;split at hx
  · rename_i x y h3 h4
    injection hx with hx;subst hx;obtain ⟨qa,h5,h6⟩:=renVL_R hr h1 h3;obtain ⟨qb,h7,h8⟩:=renVL_R hr h2 h4;exact ⟨.clo f qa qb,by simp only [ren,h5,h7],qa,qb,rfl,h6,h8⟩
  · cases hx
theorem renVL_R {m:List Nat} {s':List SB} (hr:LG m s s'): ∀{v u:List SV} {p:List PV},RL s v p->renVL m v=some u-> ∃q,renL m p=some q/\RL s' u q
 | [],u,p,h,hx=>by injection hx with hx;subst hx;rw [show p=_ from h];exact ⟨_,rfl,rfl⟩
 |x::xs,u,p,h,hx=>by
  obtain ⟨q,qs,rfl,h1,h2⟩:=h.cons_inv;simp only [renVL] at hx;split at hx
  · rename_i a b h3 h4
    injection hx with hx;subst hx;obtain ⟨a',h5,h6⟩:=aAW hr h1 h3;obtain ⟨b',h7,h8⟩:=renVL_R hr h2 h4;exact ⟨a'::b',by simp only [renL,h5,h7],RL.cons h6 h8⟩
  · cases hx
end
theorem aJc {m:List Nat} {s':List SB} (hr:LG m s s') {b c:SB} {q:mL} (h:RB s b q) (hx:aAy m b=some c): ∃q',pY m q=some q'/\RB s' c q':=by
 cases b with
 |box cs=>
  obtain ⟨p,rfl,h⟩:=h;simp only [aAy] at hx;split at hx
  · rename_i l hl
    injection hx with hx;subst hx;obtain ⟨q',h1,h2⟩:=renVL_R hr h hl;exact ⟨.box q',by simp only [pY,h1];rfl,q',rfl,h2⟩
  · cases hx
 |arr r l=>injection hx with hx;subst hx;rw [show q=_ from h];exact ⟨_,rfl,rfl⟩
 |set l=>injection hx with hx;subst hx;rw [show q=_ from h];exact ⟨_,rfl,rfl⟩
 |dead=>injection hx with hx;subst hx;rw [show q=_ from h];exact ⟨_,rfl,rfl⟩
theorem B6 {m:List Nat}: ∀{ts:List Nat} {s1:List SB},MV s m ts=some s1->s1.length=ts.length/\ ∀(j t:Nat),ts[j]? =some t-> ∃b c,s[t]? =some b/\aAy m b=some c/\s1[j]? =some c
 | [],s1,h=>by injection h with h;subst h;exact ⟨rfl,fun j t h=>by simp at h⟩
 |t::ts,s1,h=>by
  simp only [MV,cR] at h;split at h
  · rename_i b hb
    split at h
    · rename_i c r hc hr
      injection h with h;subst h;obtain ⟨h1,h2⟩:=B6 hr;refine ⟨by simp [h1],fun j u hj=>?_⟩
      cases j with
      |zero=>simp at hj;subst hj;exact ⟨b,c,hb,hc,rfl⟩
      |succ j=>simpa using h2 j u (by simpa using hj)
    · cases h
  · cases h
theorem HN (hS:cY s ps) {m:List Nat} {s':List SB} (hr:LG m s s'): ∀{ts:List Nat} {s1:List SB},MV s m ts=some s1-> ∃p1,BO ps m ts=some p1/\p1.length=s1.length/\ ∀(j:Nat) (b:SB),s1[j]? =some b-> ∃q,p1[j]? =some q/\RB s' b q
 | [],s1,h=>by injection h with h;subst h;exact ⟨[],rfl,rfl,fun j b h=>by simp at h⟩
 |t::ts,s1,h=>by
  simp only [MV,cR] at h;split at h
  · rename_i b hb
    split at h
    · rename_i c r hc hr'
      injection h with h;subst h;obtain ⟨q,h1,h2⟩:=hS.at_ t b hb;obtain ⟨q',h3,h4⟩:=aJc hr h2 hc;obtain ⟨p1,h5,h6,h7⟩:=HN hS hr hr';refine ⟨q'::p1,by simp only [BO,h1,h3,h5],by simp [h6],fun j x hj=>?_⟩
      cases j with
      |zero=>simp at hj;subst hj;exact ⟨q',rfl,h4⟩
      |succ j=>simpa using h7 j x (by simpa using hj)
    · cases h
  · cases h
theorem LG.of {m:List Nat} {s1 l:List SB} (h:MV s m m=some s1):LG m s (s1++l):=fun t u b hu hb=>by
 have hm:=LF hu;obtain ⟨h1,h2⟩:=B6 h;obtain ⟨b',c,h3,h4,h5⟩:=h2 u t hm;rw [hb] at h3;injection h3 with h3;subst h3;have hlt:=(List.getElem?_eq_some_iff.1 h5).1;cases b with
 |arr r l'=>injection h4 with h4;subst h4;rw [List.getElem?_append_left hlt];exact h5
 |dead=>injection h4 with h4;subst h4;rw [List.getElem?_append_left hlt];exact h5
 |_=>trivial
theorem yZ: ∀(rk:List (Nat×List PT)) (n:Nat),(BE rk n).length=n
 | [],n=>by simp [BE]
 |(m,r)::q,n=>by
  simp only [BE];cases hc:(Nat.beq m n&&Nat.beq r.length n) with
  |true=>simp only [Bool.and_eq_true] at hc;exact Nat.eq_of_beq_eq_true hc.2
  |false=>exact yZ q n
theorem HO {rk:List (Nat×List PT)} {e:SE} {m:List Nat}: ∀{live:List (Nat×Option Nat)} {nx:Nat} {e1:SE} {s2:List SB},BF rk e m nx live=some (e1,s2)-> ∀(j:Nat) (b:SB),s2[j]? =some b-> ∃r,b= .arr r []
 | [],nx,e1,s2,h,j,b,hj=>by
  simp only [BF,Option.some.injEq,Prod.mk.injEq] at h;rw [<- h.2] at hj;simp at hj
 |(t,k)::live,nx,e1,s2,h,j,b,hj=>by
  simp only [BF] at h;split at h
  · split at h
    · rename_i p hp
      simp only [Option.some.injEq,Prod.mk.injEq] at h;obtain ⟨rfl,rfl⟩:=h;cases j with
      |zero=>simp at hj;exact ⟨_,hj.symm⟩
      |succ j=>exact HO (e1:=p.1) (s2:=p.2) hp j b (by simpa using hj)
    · cases h
  · split at h
    · rename_i v' p hv hp
      simp only [Option.some.injEq,Prod.mk.injEq] at h;obtain ⟨rfl,rfl⟩:=h;exact HO (e1:=p.1) (s2:=p.2) hp j b hj
    · cases h
mutual
theorem HP {m:List Nat}: ∀{v u:SV},tL m v=some u->u.sure=true
 | .junk,_,h=>by cases h
 | .undef,u,h| .nul,u,h| .nilf,u,h| .int _ _,u,h| .bool _,u,h| .str _,u,h| .sl _ _,u,h| .nil _ _,u,h=>by injection h with h;subst h;rfl
 | .agg cs,u,h=>by
  simp only [tL] at h;split at h
  · rename_i l hl;injection h with h;subst h;exact renVL_sure hl
  · cases h
 | .tup cs,u,h=>by
  simp only [tL] at h;split at h
  · rename_i l hl;injection h with h;subst h;exact renVL_sure hl
  · cases h
 | .rptr cs _,u,h=>by
  simp only [tL] at h;split at h
  · rename_i l hl;injection h with h;subst h;exact renVL_sure hl
  · cases h
 | .own _ _,u,h=>by simp only [tL] at h;split at h<;>first|(injection h with h;subst h;rfl)|cases h
 | .pre _ _ _ _,u,h=>by simp only [tL] at h;split at h<;>first|(injection h with h;subst h;rfl)|cases h
 | .part _ _ _ _ _,u,h=>by simp only [tL] at h;split at h<;>first|(injection h with h;subst h;rfl)|cases h
 | .pa _ _ _ _ _,u,h=>by simp only [tL] at h;split at h<;>first|(injection h with h;subst h;rfl)|cases h
 | .pb _ _ _,u,h=>by simp only [tL] at h;split at h<;>first|(injection h with h;subst h;rfl)|cases h
 | .bp _ _ _,u,h=>by simp only [tL] at h;split at h<;>first|(injection h with h;subst h;rfl)|cases h
 | .mp _,u,h=>by simp only [tL] at h;split at h<;>first|(injection h with h;subst h;rfl)|cases h
 | .clo f a b,u,h=>by
  simp only [tL] at h;split at h
  · rename_i x y h1 h2
    injection h with h;subst h;simp only [SV.sure,renVL_sure h1,renVL_sure h2,Bool.and_self]
  · cases h
theorem renVL_sure {m:List Nat}: ∀{v u:List SV},renVL m v=some u->sureL u=true
 | [],u,h=>by injection h with h;subst h;rfl
 |x::xs,u,h=>by
  simp only [renVL] at h;split at h
  · rename_i a b h1 h2
    injection h with h;subst h;simp only [sureL,HP h1,renVL_sure h2,Bool.and_self]
  · cases h
end
theorem aCC {s:List SB} {v:SV} {p:PV} (h:R s v p): ∀k:Option Nat,v.sure=true->R s (OX k v) (exOff k p)
 |none,_=>h
 |some _,hs=>by
  cases v with
  |own t ex=>obtain ⟨e,n,rfl,h⟩:=h;exact ⟨e,n,rfl,h⟩
  |pre t l c ex=>obtain ⟨e,rfl,h⟩:=h;exact ⟨e,rfl,h⟩
  |part t o l c ex=>obtain ⟨e,rfl,h⟩:=h;exact ⟨e,rfl,h⟩
  |junk=>cases hs
  |undef|nul|nilf|int _ _|bool _|str _|bp _ _ _|mp _|sl _ _|nil _ _=>rw [show p=_ from h];rfl
  |agg _|tup _|rptr _ _=>obtain ⟨q,rfl,h⟩:=h;exact ⟨q,rfl,h⟩
  |clo _ _ _=>obtain ⟨q,q2,rfl,h⟩:=h;exact ⟨q,q2,rfl,h⟩
  |pa _ _ _ _ _=>obtain ⟨rfl,h⟩:=h;exact ⟨rfl,h⟩
  |pb _ _ _=>obtain ⟨q,rfl,h⟩:=h;exact ⟨q,rfl,h⟩
theorem UG {v:SV} (h:v.sure=true) (k:Option Nat):(OX k v).sure=true:=by
 unfold OX;split<;>first|rfl|exact h
theorem O4 {rk:List (Nat×List PT)} {e:SE} {pe:wK} (hE:dW s e pe) {m:List Nat} {s':List SB} (hr:LG m s s'): ∀{live:List (Nat×Option Nat)} {nx:Nat} {e1:SE} {s2:List SB},BF rk e m nx live=some (e1,s2)->(∀(j:Nat) (b:SB),s2[j]? =some b->s'[nx+j]? =some b)->
 ∃p1 q2,uL pe m nx live=some (p1,q2)/\dW s' e1 p1/\q2.length=s2.length/\ ∀(j:Nat) (b:SB),s2[j]? =some b-> ∃q,q2[j]? =some q/\RB s' b q
 | [],nx,e1,s2,h,_=>by
  simp only [BF,Option.some.injEq,Prod.mk.injEq] at h;obtain ⟨rfl,rfl⟩:=h;exact ⟨[],[],rfl,rfl,rfl,fun j b h=>by simp at h⟩
 |(t,k)::live,nx,e1,s2,h,hs=>by
  have hlk:=hE.lk t;simp only [BF] at h;split at h
  · rename_i kk esz en hv
    split at h
    · rename_i p hp
      simp only [Option.some.injEq,Prod.mk.injEq] at h;obtain ⟨rfl,rfl⟩:=h;rw [hv] at hlk;obtain ⟨p1,q2,h1,h2,h3,h4⟩:=O4 (live:=live) (nx:=nx+1) (e1:=p.1) (s2:=p.2) hE hr hp (fun j b hj=>by
       have:=hs (j+1) b (by simpa using hj)
       rw [show nx+1+j=nx+(j+1) by omega];exact this)
      refine ⟨(t,.own nx esz 0 0 0 false)::p1,.arr esz []::q2,?_,⟨_,_,rfl,⟨esz,0,rfl,.inl ⟨BE rk esz,[],by simpa using hs 0 _ rfl,(yZ rk esz).symm,rfl⟩⟩,h2⟩,by simp [h3],fun j b hj=>?_⟩
      · have hlk':lk t pe= .sl en true []:=hlk
        simp only [uL,hlk',h1];rfl
      · cases j with
        |zero=>simp at hj;subst hj;exact ⟨_,rfl,by show _=_;rw [yZ];rfl⟩
        |succ j=>simpa using h4 j b (by simpa using hj)
    · cases h
  · rename_i hne
    split at h
    · rename_i v' p hv hp
      simp only [Option.some.injEq,Prod.mk.injEq] at h;obtain ⟨rfl,rfl⟩:=h;obtain ⟨q',h5,h6⟩:=aAW hr hlk hv;obtain ⟨p1,q2,h1,h2,h3,h4⟩:=O4 (live:=live) (e1:=p.1) (s2:=p.2) hE hr hp hs;refine ⟨(t,exOff _ q')::p1,q2,?_,⟨_,_,rfl,aCC h6 _ (HP hv),h2⟩,h3,h4⟩;simp only [uL];split
      · rename_i esz x hx
        exfalso;rw [hx] at hlk;generalize MR t e=v0 at hlk hv hne;cases v0 with
        |junk=>cases hv
        |nil e' c=>
         have hlk':PV.sl x true []= .sl e' c []:=hlk;injection hlk' with h1 h2;subst h2;exact hne _ _ rfl rfl
        |undef|nul|nilf|int _ _|bool _|str _|bp _ _ _|mp _=>cases (show PV.sl x true []=_ from hlk)
        |sl r l=>cases (show PV.sl x true []=_ from hlk)
        |agg _|tup _|rptr _ _=>obtain ⟨q,hq,_⟩:=hlk;cases hq
        |clo _ _ _=>obtain ⟨q,q2,hq,_⟩:=hlk;cases hq
        |own _ _=>obtain ⟨q,q2,hq,_⟩:=hlk;cases hq
        |pre _ _ _ _=>obtain ⟨q,hq,_⟩:=hlk;cases hq
        |part _ _ _ _ _=>obtain ⟨q,hq,_⟩:=hlk;cases hq
        |pa _ _ _ _ _=>obtain ⟨hq,_⟩:=hlk;cases hq
        |pb _ _ _=>obtain ⟨q,hq,_⟩:=hlk;cases hq
      · simp only [h5,h1]
    · cases h
def aIO (s:List SB):Prop:= ∀(t:Nat) (cs:List SV),s[t]? =some (.box cs)->sureL cs=true
def NI:SE->Prop
 | []=>True
 |(_,v)::r=>v.sure=true/\NI r
theorem NI.lk: ∀{e:SE},NI e-> ∀t,(MR t e).sure=true
 | [],_,t=>rfl
 |(u,v)::r,h,t=>by
  simp only [MR];cases hb:Nat.beq u t with
  |true=>exact h.1
  |false=>exact NI.lk h.2 t
theorem ET {rk:List (Nat×List PT)} {e:SE} {m:List Nat}: ∀{live:List (Nat×Option Nat)} {nx:Nat} {e1:SE} {s2:List SB},BF rk e m nx live=some (e1,s2)->NI e1
 | [],nx,e1,s2,h=>by
  simp only [BF,Option.some.injEq,Prod.mk.injEq] at h;rw [<- h.1];trivial
 |(t,k)::live,nx,e1,s2,h=>by
  simp only [BF] at h;split at h
  · split at h
    · rename_i p hp
      simp only [Option.some.injEq,Prod.mk.injEq] at h;obtain ⟨rfl,rfl⟩:=h;exact ⟨rfl,ET (e1:=p.1) (s2:=p.2) hp⟩
    · cases h
  · split at h
    · rename_i v' p hv hp
      simp only [Option.some.injEq,Prod.mk.injEq] at h;obtain ⟨rfl,rfl⟩:=h;exact ⟨UG (HP hv) _,ET (e1:=p.1) (s2:=p.2) hp⟩
    · cases h
theorem NJ: ∀{l:List SV},sureL l=true-> ∀{n:Nat} {v:SV},nth l n=some v->v.sure=true
 | [],_,_,_,h=>by cases h
 |x::xs,hs,0,v,h=>by injection h with h;subst h;simp only [sureL,Bool.and_eq_true] at hs;exact hs.1
 |x::xs,hs,n+1,v,h=>by simp only [sureL,Bool.and_eq_true] at hs;exact NJ hs.2 (n:=n) h
theorem NK: ∀{l:List SV},sureL l=true-> ∀(n:Nat) {v:SV},v.sure=true->sureL (l.set n v)=true
 | [],_,n,v,_=>rfl
 |x::xs,hs,0,v,h=>by simp only [sureL,Bool.and_eq_true] at hs;simp [sureL,h,hs.2]
 |x::xs,hs,n+1,v,h=>by simp only [sureL,Bool.and_eq_true] at hs;simp [sureL,hs.1,NK hs.2 n h]
theorem RL.set {s:List SB}: ∀{xs:List SV} {ps:List PV},RL s xs ps-> ∀(n:Nat) {v:SV} {p:PV},R s v p->RL s (xs.set n v) (ps.set n p)
 | [],ps,h,n,v,p,_=>by rw [show ps=[] from h];exact RL.nil
 |x::xs,ps,h,0,v,p,hv=>by
  obtain ⟨a,q,rfl,h1,h2⟩:=h.cons_inv;exact RL.cons hv h2
 |x::xs,ps,h,n+1,v,p,hv=>by
  obtain ⟨a,q,rfl,h1,h2⟩:=h.cons_inv;exact RL.cons h1 (RL.set h2 n hv)
structure RSS (st:tK) (p:St):Prop where
 r:D3 st p
 s:aIO st.sto
 e:NI st.env
theorem UH {rk:List (Nat×List PT)} {st:tK} {p:St} (h:RSS st p) (t c esz:Nat):RSS (KY rk st t c esz) (uM p t c esz):=by
 unfold KY uM;rw [cR];cases hst:st.sto[t]? with
 |none=>
  have:p.sto[t]? =none:=by
   rw [List.getElem?_eq_none_iff] at hst ⊢;rw [h.r.sto.len];exact hst
  rw [this];exact h
 |some b=>
  obtain ⟨q,h1,h2⟩:=h.r.sto.at_ t b hst;rw [h1];cases b with
  |arr r l=>rw [show q=_ from h2];exact h
  |set l=>rw [show q=_ from h2];exact h
  |dead=>rw [show q=_ from h2];exact h
  |box cs=>
   obtain ⟨pc,rfl,h3⟩:=h2;dsimp only;cases hc:nth cs c with
   |none=>
    have:pc[c]? =none:=by
     rw [cR,List.getElem?_eq_none_iff] at hc;rw [List.getElem?_eq_none_iff,h3.length];exact hc
    rw [this];exact h
   |some v=>
    obtain ⟨pv,h4,h5⟩:=h3.nth hc;rw [h4];have hsure:=NJ (h.s t cs hst) hc;have hcs:=h.s t cs hst;have other:(∀e,pv≠ .sl e true [])->(∀e,v≠ .nil e true)->RSS (match some v with
     |some (.nil _ true)=>{st with sto:=st.sto.set t (.box (cs.set c (.own st.sto.length false)))++[.arr (BE rk esz) []]}
     |_=>st) (match some pv with
     |some (.sl _ true [])=>{p with sto:=p.sto.set t (.box (pc.set c (.own p.sto.length esz 0 0 0 false)))++[.arr esz []]}
     |_=>p):=by
     intro n1 n2;split
     · rename_i e he;injection he with he;exact absurd he (n2 e)
     · split
       · rename_i e he;injection he with he;exact absurd he (n1 e)
       · exact h
    cases v with
    |junk=>cases hsure
    |nil e' cl=>
     have h5':pv= .sl e' cl []:=h5;subst h5';cases cl with
     |false=>exact other (fun e he=>by cases he) (fun e he=>by cases he)
     |true=>
      dsimp only;have hlt:=(List.getElem?_eq_some_iff.1 hst).1;have hfr:Fr [] st.sto (st.sto.set t (.box (cs.set c (.own st.sto.length false)))++[.arr (BE rk esz) []]):=fun u x hu=>by
       by_cases hut:t=u
       · subst hut;rw [hst] at hu;injection hu with hu;subst hu;trivial
       · have hul:=(List.getElem?_eq_some_iff.1 hu).1
         have:(st.sto.set t (.box (cs.set c (.own st.sto.length false)))++[.arr (BE rk esz) []])[u]? =some x:=by
          rw [List.getElem?_append_left (by simpa using hul),List.getElem?_set];simp [hut,hu]
         cases x with
         |arr r l=>exact .inl ⟨l,this,rfl,fun _=>rfl⟩
         |dead=>exact this
         |_=>trivial
      have hlen:(st.sto.set t (.box (cs.set c (.own st.sto.length false)))).length=st.sto.length:=by simp
      have hown:R (st.sto.set t (.box (cs.set c (.own st.sto.length false)))++[.arr (BE rk esz) []]) (.own st.sto.length false) (.own p.sto.length esz 0 0 0 false):=by
       refine ⟨esz,0,by rw [h.r.sto.len],.inl ⟨BE rk esz,[],?_,(yZ rk esz).symm,rfl⟩⟩
       rw [List.getElem?_append_right (by simp)];simp
      refine ⟨⟨dW.ext hfr h.r.env,⟨by simp [h.r.sto.len],fun u x hu=>?_⟩,h.r.fz,h.r.kn⟩,fun u x hu=>?_,h.e⟩
      · rcases Nat.lt_or_ge u st.sto.length with hul|hul
        · rw [List.getElem?_append_left (by simpa using hul),List.getElem?_set] at hu
          by_cases hut:t=u
          · subst hut
            simp [hlt] at hu;subst hu;refine ⟨.box (pc.set c (.own p.sto.length esz 0 0 0 false)),?_,_,rfl,RL.set (RL.ext hfr h3) c hown⟩;rw [List.getElem?_append_left (by simp [h.r.sto.len,hul]),List.getElem?_set]
            simp [h.r.sto.len,hul]
          · simp [hut] at hu
            obtain ⟨q,h6,h7⟩:=h.r.sto.at_ u x hu;refine ⟨q,?_,h7.ext hfr⟩;rw [List.getElem?_append_left (by simp [h.r.sto.len,hul]),List.getElem?_set]
            simp [hut,h6]
        · rw [List.getElem?_append_right (by simpa using hul)] at hu
          simp only [hlen] at hu;have hu0:u-st.sto.length=0:=by
           rcases Nat.eq_zero_or_pos (u-st.sto.length) with h|h
           · exact h
           · rw [List.getElem?_eq_none (by simp;omega)] at hu;cases hu
          rw [hu0] at hu;simp at hu;subst hu;refine ⟨.arr esz [],?_,by show _=_;rw [yZ];rfl⟩
          rw [List.getElem?_append_right (by simp [h.r.sto.len];omega)]
          simp [h.r.sto.len,hu0]
      · rcases Nat.lt_or_ge u st.sto.length with hul|hul
        · rw [List.getElem?_append_left (by simpa using hul),List.getElem?_set] at hu
          by_cases hut:t=u
          · subst hut
            simp [hlt] at hu;subst hu;exact NK hcs c rfl
          · simp [hut] at hu;exact h.s u x hu
        · rw [List.getElem?_append_right (by simpa using hul)] at hu
          cases hj:u- (st.sto.set t (.box (cs.set c (.own st.sto.length false)))).length with
          |zero=>rw [hj] at hu;simp at hu
          |succ j=>rw [hj] at hu;simp at hu
    |undef|nul|nilf|int _ _|bool _|str _|bp _ _ _|mp _=>exact other (fun e he=>by rw [show pv=_ from h5] at he;cases he) (fun e he=>by cases he)
    |sl r l=>exact other (fun e he=>by rw [show pv=_ from h5] at he;cases he) (fun e he=>by cases he)
    |agg _|tup _|rptr _ _=>exact other (fun e he=>by obtain ⟨q,hq,_⟩:=h5;rw [hq] at he;cases he) (fun e he=>by cases he)
    |clo _ _ _=>exact other (fun e he=>by obtain ⟨q,q2,hq,_⟩:=h5;rw [hq] at he;cases he) (fun e he=>by cases he)
    |own _ _=>exact other (fun e he=>by obtain ⟨q,q2,hq,_⟩:=h5;rw [hq] at he;cases he) (fun e he=>by cases he)
    |pre _ _ _ _|part _ _ _ _ _|pb _ _ _=>exact other (fun e he=>by obtain ⟨q,hq,_⟩:=h5;rw [hq] at he;cases he) (fun e he=>by cases he)
    |pa _ _ _ _ _=>exact other (fun e he=>by obtain ⟨hq,_⟩:=h5;rw [hq] at he;cases he) (fun e he=>by cases he)
theorem O5 {p:St} {t c esz:Nat} (h: ∀cs,p.sto[t]?≠some (.box cs)):uM p t c esz=p:=by
 unfold uM;split
 · rename_i cs hcs;exact absurd hcs (h cs)
 · rfl
theorem aAX {st:tK} {p:St} (h:RSS st p) {v:SV} {q:PV} (hv:R st.sto v q) (hs:v≠ .junk):(∃t,aAz v=some t/\J0 q=some t)\/(aAz v=none/\ ∀t,J0 q=some t-> ∀cs,p.sto[t]?≠some (.box cs)):=by
 cases v with
 |junk=>exact absurd rfl hs
 |bp u m off=>
  have hq:q= .ptr u m 0 off:=hv;subst hq;cases off with
  |zero=>exact .inl ⟨u,rfl,rfl⟩
  |succ off=>exact .inr ⟨rfl,fun t ht=>by cases ht⟩
 |pb u i off=>
  obtain ⟨e',hq,hat⟩:=hv;subst hq;refine .inr ⟨rfl,fun t ht cs hcs=>?_⟩
  have:t=u:=by
   unfold J0 at ht;split at ht
   · rename_i heq;injection heq with e1;injection ht with ht;rw [<- ht,e1]
   · cases ht
  subst this;rcases hat with ⟨r,l,h1,_⟩|h1
  · rw [h.r.sto.arr h1] at hcs;cases hcs
  · obtain ⟨q,h2,h3⟩:=h.r.sto.at_ t _ h1
    rw [hcs] at h2;injection h2 with h2;subst h2;cases (show mL.box cs= .dead from h3)
 |pa u r i a off=>
  obtain ⟨hq,hat⟩:=hv;subst hq;refine .inr ⟨rfl,fun t ht cs hcs=>?_⟩
  have:t=u:=by
   unfold J0 at ht;split at ht
   · rename_i heq;injection heq with e1;injection ht with ht;rw [<- ht,e1]
   · cases ht
  subst this;rcases hat with ⟨l,h1,_⟩|h1
  · rw [h.r.sto.arr h1] at hcs;cases hcs
  · obtain ⟨q,h2,h3⟩:=h.r.sto.at_ t _ h1
    rw [hcs] at h2;injection h2 with h2;subst h2;cases (show mL.box cs= .dead from h3)
 |undef|nul|nilf|int _ _|bool _|str _|mp _|sl _ _|nil _ _=>exact .inr ⟨rfl,fun t ht=>by rw [show q=_ from hv] at ht;cases ht⟩
 |agg _|tup _|rptr _ _=>exact .inr ⟨rfl,fun t ht=>by obtain ⟨_,rfl,_⟩:=hv;cases ht⟩
 |clo _ _ _=>exact .inr ⟨rfl,fun t ht=>by obtain ⟨_,_,rfl,_⟩:=hv;cases ht⟩
 |own _ _=>exact .inr ⟨rfl,fun t ht=>by obtain ⟨_,_,rfl,_⟩:=hv;cases ht⟩
 |pre _ _ _ _|part _ _ _ _ _=>exact .inr ⟨rfl,fun t ht=>by obtain ⟨_,rfl,_⟩:=hv;cases ht⟩
theorem aJd {st:tK} {p:St} (h:RSS st p) {v:SV} {q:PV} (hv:R st.sto v q) (hs:v.sure=true):(∃t,aCn v=some t/\QJ q=some t)\/(aCn v=none/\ ∀t,QJ q=some t-> ∀cs,p.sto[t]?≠some (.box cs)):=by
 have hj:v≠ .junk:=fun e=>by subst e;cases hs
 by_cases hc: ∃f a b,v= .clo f a b
 · obtain ⟨f,a,b,rfl⟩:=hc
   obtain ⟨pa,pb,rfl,h1,h2⟩:=hv;cases b with
   |nil=>
    have:pb=[]:=h2
    subst this;exact .inr ⟨rfl,fun t ht=>by cases ht⟩
   |cons y ys=>
    obtain ⟨z,zs,rfl,g1,g2⟩:=h2;exact aAX h g1 (fun e=>by subst e;simp [SV.sure,sureL] at hs)
 · have e1:aCn v=aAz v:=by
    cases v with
    |clo f a b=>exact absurd ⟨f,a,b,rfl⟩ hc
    |_=>rfl
   have e2:QJ q=J0 q:=by
    cases q with
    |clo f a b=>
     exfalso;cases v with
     |junk=>exact hj rfl
     |clo f a b=>exact hc ⟨f,a,b,rfl⟩
     |bp _ _ _|undef|nul|nilf|int _ _|bool _|str _|mp _|sl _ _|nil _ _=>cases (show PV.clo f a b=_ from hv)
     |agg _|tup _|rptr _ _|pre _ _ _ _|part _ _ _ _ _|pb _ _ _=>obtain ⟨_,hq,_⟩:=hv;cases hq
     |own _ _=>obtain ⟨_,_,hq,_⟩:=hv;cases hq
     |pa _ _ _ _ _=>obtain ⟨hq,_⟩:=hv;cases hq
    |_=>rfl
   rw [e1,e2];exact aAX h hv hj
theorem pI {rk:List (Nat×List PT)}: ∀(live:List (Nat×Option Nat)) {st:tK} {p:St},RSS st p->RSS (nM rk live st) (lV live p)
 | [],st,p,h=>h
 |(t,k)::live,st,p,h=>by
  cases k with
  |none=>simp only [nM,lV];exact pI live h
  |some n=>
   simp only [nM,lV];cases hn:Nat.ble 1000 n with
   |false=>simp only [cond_false,Bool.false_eq_true,if_false];exact pI live h
   |true=>
    simp only [cond_true,if_true];have hlk:=h.r.env.lk t;have hsu:=h.e.lk t;rcases aJd h hlk hsu with ⟨u,e1,e2⟩|⟨e1,e2⟩
    · rw [e1,e2]
      exact pI live (UH h u _ _)
    · rw [e1]
      cases hb:QJ (lk t p.env) with
      |none=>exact pI live h
      |some u=>
       show RSS (nM rk live st) (lV live (uM p u (n / 1000-1) (n%1000)));rw [O5 (e2 u hb)];exact pI live h
theorem RM {e:SE} {pe:wK} (hE:dW s e pe): ∀{live:List (Nat×Option Nat)},FQ e live=true->KZ e live=live.flatMap fun p=>jU wM (lk p.1 pe)
 | [],_=>rfl
 |(t,k)::live,h=>by
  simp only [FQ,Bool.and_eq_true] at h;simp only [KZ,List.flatMap_cons,RM hE h.2];rw [aAV (fun _=>rfl) (hE.lk t) h.1]
theorem aAY: ∀{s':List SB} {s:List SB} {ps:cX} (n:Nat),(ps.length=s.length/\ ∀(t:Nat) (b:SB),s[t]? =some b-> ∃q,ps[t]? =some q/\RB s' b q)->K0 s n=true->T8 s n=(ps.take n).flatMap uK
 |s',[],ps,n,h,_=>by
  have:ps=[]:=List.length_eq_zero_iff.1 (by simpa using h.1)
  subst this;cases n<;>simp [T8]
 |s',b::s,ps,0,h,_=>by simp [T8]
 |s',b::s,ps,n+1,h,hk=>by
  cases ps with
  |nil=>have:=h.1;simp at this
  |cons q ps=>
   simp only [K0,Bool.and_eq_true] at hk;obtain ⟨q',h1,h2⟩:=h.2 0 b rfl;simp at h1;subst h1;simp only [T8,List.take_succ_cons,List.flatMap_cons,O3 h2 hk.1];rw [aAY (s':=s') (ps:=ps) n ⟨by simpa using h.1,fun t x hx=>by simpa using h.2 (t+1) x (by simpa using hx)⟩ hk.2]
theorem WX {s:List SB} {v:SV} {p:PV} (h:R s v p):R s (ND s v) p:=by
 unfold ND;split
 · rename_i t ex
   rw [cR];split
   · rename_i r l hst
     obtain ⟨e,n,rfl,hat⟩:=h;obtain ⟨rfl,rfl⟩:=hat.inv hst;exact ⟨r.length,rfl,.inl ⟨r,l,hst,rfl⟩⟩
   · exact h
 · exact h
theorem WY {s:List SB} (c:Nat): ∀{e:SE} {p:wK},dW s e p->dW s (WL s c e) p
 | [],_,h=>h
 |(t,v)::r,_,h=>by
  obtain ⟨q,qs,rfl,h1,h2⟩:=h;simp only [WL];cases hb:Nat.beq t c with
  |true=>exact ⟨q,qs,rfl,WX h1,h2⟩
  |false=>exact ⟨q,qs,rfl,h1,WY c h2⟩
theorem HQ: ∀(live:List (Nat×Option Nat)) {st:tK} {p:St},D3 st p->D3 (FP live st) p
 | [],st,p,h=>h
 |(t,k)::r,st,p,h=>by
  simp only [FP];cases hn:Nat.ble 1000000 t with
  |true=>exact HQ r ⟨WY _ h.env,h.sto,h.fz,h.kn⟩
  |false=>exact HQ r h
theorem RN {rk:List (Nat×List PT)} {live:List (Nat×Option Nat)} {st st1:tK} {p:St} (h:D3 st p) (hn:K1 rk live st=some st1): ∃p1,J1 live p=some p1/\D3 st1 p1:=by
 unfold K1 at hn;cases hc:(FQ st.env live&&K0 st.sto st.kn) with
 |false=>rw [hc] at hn;cases hn
 |true=>
  rw [hc] at hn;simp only [cond_true] at hn;simp only [Bool.and_eq_true] at hc;split at hn
  · cases hn
  · rename_i m hm
    split at hn
    · rename_i s1 e1 s2 h1 h2
      injection hn with hn;subst hn;have ht:T8 st.sto st.kn++KZ st.env live=(p.sto.take p.kn).flatMap uK++live.flatMap fun q=>jU wM (lk q.1 p.env):=by
       rw [RM h.env hc.1,aAY (s':=st.sto) st.kn ⟨h.sto.len,h.sto.at_⟩ hc.2,h.kn]
      rw [ht] at hm;have hm':=LE h.sto _ _ _ _ hm;have hr:LG m st.sto (s1++s2):=LG.of h1;obtain ⟨p1,a1,a2,a3⟩:=HN h.sto hr h1;have hlen:s1.length=m.length:=(B6 h1).1;obtain ⟨pe1,q2,b1,b2,b3,b4⟩:=O4 h.env hr h2 (fun j b hj=>by rw [<- hlen,List.getElem?_append_right (by omega)];simpa using hj)
      have hsto:cY (s1++s2) (p1++q2):=⟨by simp [a2,b3],fun t b ht=>by
       rcases Nat.lt_or_ge t s1.length with hl|hl
       · rw [List.getElem?_append_left hl] at ht
         obtain ⟨q,c1,c2⟩:=a3 t b ht;exact ⟨q,by rw [List.getElem?_append_left (by omega)];exact c1,c2⟩
       · rw [List.getElem?_append_right hl] at ht
         obtain ⟨q,c1,c2⟩:=b4 _ b ht;exact ⟨q,by rw [List.getElem?_append_right (by omega),a2];exact c1,c2⟩⟩
      have hs:aIO (s1++s2):=fun t cs ht=>by
       rcases Nat.lt_or_ge t s1.length with hl|hl
       · rw [List.getElem?_append_left hl] at ht
         obtain ⟨b,c,d1,d2,d3⟩:=(B6 h1).2 t (m[t]'(by omega)) (List.getElem?_eq_getElem (by omega))
         rw [ht] at d3;injection d3 with d3;subst d3;cases b with
         |box x=>
          simp only [aAy] at d2;split at d2
          · rename_i l hl';injection d2 with d2;injection d2 with d2;subst d2;exact renVL_sure hl'
          · cases d2
         |arr _ _=>injection d2 with d2;cases d2
         |set _=>injection d2 with d2;cases d2
         |dead=>injection d2 with d2;cases d2
       · rw [List.getElem?_append_right hl] at ht
         obtain ⟨r,hr'⟩:=HO h2 _ _ ht;cases hr'
      have hR:RSS {env:=e1,sto:=s1++s2,fz:=BP st.fz 0 m,kn:=st.kn} {env:=pe1,sto:=p1++q2,fz:=BP p.fz 0 m,kn:=p.kn}:=
       ⟨⟨b2,hsto,by rw [h.fz],h.kn⟩,hs,ET h2⟩
      refine ⟨_,?_,HQ live (pI live hR).r⟩;unfold J1;rw [h.kn] at hm';rw [h.kn];rw [hm'];dsimp only;rw [a1,b1]
    · cases hn
theorem WZ {rk:List (Nat×List PT)} {live:List (Nat×Option Nat)} {st st1:tK} {p:St} (h:D3 st p) (hn:K2 rk live st=some st1): ∃p1,I7 live p=some p1/\D3 st1 p1:=by
 unfold K2 at hn;cases h1:K1 rk live st with
 |none=>rw [h1] at hn;cases hn
 |some s=>
  rw [h1] at hn;dsimp only at hn;obtain ⟨p1,h2,h3⟩:=RN h h1;unfold I7;rw [h2];dsimp only;cases ha:(live.any fun p=>p.2.isSome) with
  |true=>
   rw [ha] at hn;simp only [cond_true] at hn;rw [if_pos rfl];exact RN h3 hn
  |false=>
   rw [ha] at hn;injection hn with hn;subst hn;exact ⟨p1,by rw [if_neg (by simp)],h3⟩
mutual
theorem JO: ∀{a b:SV} (q:List BM),BH a b=true->wP a (HK b++q)=(b,q)
 | .undef,.undef,q,_=>rfl
 | .nul,.nul,q,_=>rfl
 | .nilf,.nilf,q,_=>rfl
 | .int k _,.int l n,q,h=>by rw [gZ.1 h];rfl
 | .bool _,.bool _,q,_=>rfl
 | .agg a,.agg b,q,h=>by simp only [wP,HK,put_atsL q h]
 | .tup a,.tup b,q,h=>by simp only [wP,HK,put_atsL q h]
 | .sl r _,.sl r' l,q,h=>rfl
 | .nil e c,.nil f d,q,h=>by
  simp only [BH,Bool.and_eq_true,beq_iff_eq] at h;rw [Nat.eq_of_beq_eq_true h.1,h.2];rfl
 | .own t x,.own u y,q,h=>by
  simp only [BH,Bool.and_eq_true,beq_iff_eq] at h;rw [Nat.eq_of_beq_eq_true h.1,h.2];rfl
 | .pre t _ _ x,.pre u _ _ y,q,h=>by
  simp only [BH,Bool.and_eq_true,beq_iff_eq] at h;rw [Nat.eq_of_beq_eq_true h.1,h.2];rfl
 | .part t _ _ _ x,.part u _ _ _ y,q,h=>by
  simp only [BH,Bool.and_eq_true,beq_iff_eq] at h;rw [Nat.eq_of_beq_eq_true h.1,h.2];rfl
 | .pb t _ o,.pb u _ p,q,h=>by
  simp only [BH,Bool.and_eq_true] at h;rw [Nat.eq_of_beq_eq_true h.1,Nat.eq_of_beq_eq_true h.2];rfl
 | .bp t n o,.bp u m p,q,h=>by
  simp only [BH,Bool.and_eq_true] at h;rw [Nat.eq_of_beq_eq_true h.1.1,Nat.eq_of_beq_eq_true h.1.2,Nat.eq_of_beq_eq_true h.2];rfl
 | .rptr a o,.rptr b p,q,h=>by
  simp only [BH,Bool.and_eq_true] at h;simp only [wP,HK,put_atsL q h.1,Nat.eq_of_beq_eq_true h.2]
 | .clo f a b,.clo g c d,q,h=>by
  simp only [BH,Bool.and_eq_true] at h;simp only [wP,HK,List.append_assoc,put_atsL _ h.1.2,put_atsL q h.2,Nat.eq_of_beq_eq_true h.1.1]
 | .mp t,.mp u,q,h=>by rw [Nat.eq_of_beq_eq_true h];rfl
theorem put_atsL: ∀{a b:List SV} (q:List BM),likeL a b=true->putL a (atsL b++q)=(b,q)
 | [],[],q,_=>rfl
 |x::xs,y::ys,q,h=>by
  simp only [likeL,Bool.and_eq_true] at h;simp only [putL,atsL,List.append_assoc,JO _ h.1,put_atsL q h.2]
 | [],_::_,_,h=>by cases h
 |_::_,[],_,h=>by cases h
end
theorem aAZ: ∀{a b:SB} (q:List BM),aIJ a b=true->T9 a (aAA b++q)=(b,q)
 | .arr r _,.arr r' l,q,h=>rfl
 | .box a,.box b,q,h=>by simp only [T9,aAA,put_atsL q h]
 | .set _,.set _,q,_=>rfl
 | .dead,.dead,q,_=>rfl
 | .arr _ _,.box _,_,h| .arr _ _,.set _,_,h| .arr _ _,.dead,_,h| .box _,.arr _ _,_,h| .box _,.set _,_,h| .box _,.dead,_,h| .set _,.arr _ _,_,h| .set _,.box _,_,h| .set _,.dead,_,h| .dead,.arr _ _,_,h| .dead,.box _,_,h| .dead,.set _,_,h=>by cases h
theorem F3: ∀{a b:List SB} (q:List BM),K3 a b=true->EM a (OY b++q)=(b,q)
 | [],[],q,_=>rfl
 |x::xs,y::ys,q,h=>by
  simp only [K3,Bool.and_eq_true] at h;simp only [EM,OY,List.append_assoc,aAZ _ h.1,F3 q h.2]
 | [],_::_,_,h=>by cases h
 |_::_,[],_,h=>by cases h
theorem RO: ∀{a b:SE} (q:List BM),WM a b=true->RC a (Y6 b++q)=(b,q)
 | [],[],q,_=>rfl
 |(t,x)::xs,(u,y)::ys,q,h=>by
  simp only [WM,Bool.and_eq_true] at h;simp only [RC,Y6,List.append_assoc,JO _ h.1.2,RO q h.2,Nat.eq_of_beq_eq_true h.1.1]
 | [],_::_,_,h=>by cases h
 |_::_,[],_,h=>by cases h
theorem RP: ∀{a b:List Nat},WN a b=true->a=b
 | [],[],_=>rfl
 |x::xs,y::ys,h=>by
  simp only [WN,Bool.and_eq_true] at h;rw [Nat.eq_of_beq_eq_true h.1,RP h.2]
 | [],_::_,h=>by cases h
 |_::_,[],h=>by cases h
theorem ZE {a b:tK} (h:K4 a b=true):D0 a (BG b)=b:=by
 obtain ⟨e1,s1,z1,k1⟩:=a;obtain ⟨e2,s2,z2,k2⟩:=b;simp only [K4,Bool.and_eq_true] at h;obtain ⟨⟨⟨h1,h2⟩,h3⟩,h4⟩:=h;have hs:=F3 [] h2;rw [List.append_nil] at hs;simp only [D0,BG,RO _ h1,hs,RP h3,Nat.eq_of_beq_eq_true h4]
theorem AK.of_at: ∀{a:AK} {x:BM} {y:a.T},a.of x=some y->a.at y=x
 | .i,.i _,y,h=>by injection h with h;subst h;rfl
 | .b,.b _,y,h=>by injection h with h;subst h;rfl
 | .n,.n _,y,h=>by injection h with h;subst h;rfl
 | .l r,.l q x,y,h=>by obtain ⟨rfl,rfl⟩:=K6 h;rfl
 | .s,.s _,y,h=>by injection h with h;subst h;rfl
 | .i,.b _,_,h| .i,.n _,_,h| .i,.l _ _,_,h| .i,.s _,_,h| .b,.i _,_,h| .b,.n _,_,h| .b,.l _ _,_,h| .b,.s _,_,h| .n,.i _,_,h| .n,.b _,_,h| .n,.l _ _,_,h| .n,.s _,_,h
 | .l _,.i _,_,h| .l _,.b _,_,h| .l _,.n _,_,h| .l _,.s _,_,h| .s,.i _,_,h| .s,.b _,_,h| .s,.n _,_,h| .s,.l _ _,_,h=>by cases h
theorem vN: ∀{ks:List AK} {l:List BM} {y:lB ks},uB ks l=some y->oH ks y=l
 | [],[],y,_=>rfl
 | [a],[x],y,h=>by
  have:=AK.of_at (a:=a) h
  simp only [oH,this]
 |a::q::r,x::xs,y,h=>by
  simp only [uB] at h;split at h
  · rename_i u v h1 h2
    injection h with h;subst h;simp only [oH,AK.of_at h1,vN h2]
  · cases h
 | [],_::_,_,h=>by cases h
 | [_],[],_,h=>by cases h
 | [_],_::_::_,_,h=>by cases h
 |_::_::_,[],_,h=>by cases h
end
end Go.Vm
/- What is known of functions, and what a call of one comes to. -/
namespace Go.Vm
mutual
def LH:Nat->PV->Option (PV×cX)
 |_,.int k n=>some (.int k n,[])
 |_,.bool b=>some (.bool b,[])
 |nx,.agg cs=>match ownPL nx cs with|some r=>some (.agg r.1,r.2)|none=>none
 |nx,.tup cs=>match ownPL nx cs with|some r=>some (.tup r.1,r.2)|none=>none
 |nx,.sl e false rows=>some (.own nx e 0 rows.length rows.length false,[.arr e rows])
 |_,_=>none
def ownPL:Nat->List PV->Option (List PV×cX)
 |_,[]=>some ([],[])
 |nx,x::xs=>match LH nx x with
  |some a=>match ownPL (nx+a.2.length) xs with
   |some b=>some (a.1::b.1,a.2++b.2)
   |none=>none
  |none=>none
end
def AF (s:List SB) (n:Nat) (l:List SB):Prop:= ∀(j:Nat) (b:SB),l[j]? =some b->s[n+j]? =some b
theorem AF.left {s:List SB} {n:Nat} {l m:List SB} (h:AF s n (l++m)):AF s n l:=fun j b hj=>h j b (by
 rw [List.getElem?_append_left (List.getElem?_eq_some_iff.1 hj).1];exact hj)
theorem AF.right {s:List SB} {n:Nat} {l m:List SB} (h:AF s n (l++m)):AF s (n+l.length) m:=fun j b hj=>by
 have:=h (l.length+j) b (by rw [List.getElem?_append_right (by omega)];simpa using hj)
 rwa [Nat.add_assoc]
def UI (s:List SB) (l:List SB) (q:cX):Prop:=q.length=l.length/\ ∀(j:Nat) (b:SB),l[j]? =some b-> ∃x,q[j]? =some x/\RB s b x
theorem UI.append {s l m:List SB} {q r:cX} (h:UI s l q) (k:UI s m r):UI s (l++m) (q++r):=by
 refine ⟨by simp [h.1,k.1],fun j b hj=>?_⟩
 rcases Nat.lt_or_ge j l.length with hl|hl
 · rw [List.getElem?_append_left hl] at hj
   obtain ⟨x,h1,h2⟩:=h.2 j b hj;exact ⟨x,by rw [List.getElem?_append_left (by rw [h.1];exact hl)];exact h1,h2⟩
 · rw [List.getElem?_append_right hl] at hj
   obtain ⟨x,h1,h2⟩:=k.2 _ b hj;exact ⟨x,by rw [List.getElem?_append_right (by rw [h.1];exact hl),h.1];exact h1,h2⟩
theorem UI.nil {s:List SB}:UI s [] []:=⟨rfl,fun j b h=>by simp at h⟩
theorem UI.one {s:List SB} {b:SB} {x:mL} (h:RB s b x):UI s [b] [x]:=⟨rfl,fun j c hc=>by
 cases j with
 |zero=>simp at hc;subst hc;exact ⟨x,rfl,h⟩
 |succ j=>simp at hc⟩
mutual
theorem W0: ∀{v:SV} {nx:Nat} {p0 p:PV} {q:cX},vL v=some p0->LH nx p0=some (p,q)-> ∀{s:List SB},AF s nx (B3 nx v).2->R s (B3 nx v).1 p/\UI s (B3 nx v).2 q
 | .int k n,nx,p0,p,q,h0,h,s,_=>by injection h0 with h0;subst h0;injection h with h;injection h with h1 h2;subst h1 h2;exact ⟨rfl,UI.nil⟩
 | .bool b,nx,p0,p,q,h0,h,s,_=>by injection h0 with h0;subst h0;injection h with h;injection h with h1 h2;subst h1 h2;exact ⟨rfl,UI.nil⟩
 | .agg cs,nx,p0,p,q,h0,h,s,hb=>by
  simp only [vL] at h0;split at h0
  · rename_i l hl
    injection h0 with h0;subst h0;simp only [LH] at h;split at h
    · rename_i r hr
      injection h with h;injection h with h1 h2;subst h1 h2;obtain ⟨h3,h4⟩:=ownOfL_R (p:=r.1) (q:=r.2) hl hr hb;exact ⟨⟨r.1,rfl,h3⟩,h4⟩
    · cases h
  · cases h0
 | .tup cs,nx,p0,p,q,h0,h,s,hb=>by
  simp only [vL] at h0;split at h0
  · rename_i l hl
    injection h0 with h0;subst h0;simp only [LH] at h;split at h
    · rename_i r hr
      injection h with h;injection h with h1 h2;subst h1 h2;obtain ⟨h3,h4⟩:=ownOfL_R (p:=r.1) (q:=r.2) hl hr hb;exact ⟨⟨r.1,rfl,h3⟩,h4⟩
    · cases h
  · cases h0
 | .sl r l,nx,p0,p,q,h0,h,s,hb=>by
  injection h0 with h0;subst h0;injection h with h;injection h with h1 h2;subst h1 h2;refine ⟨⟨r.length,l.length,by simp,.inl ⟨r,l,hb 0 _ rfl,rfl,rfl⟩⟩,UI.one rfl⟩
 | .nil e c,nx,p0,p,q,h0,h,s,hb=>by
  injection h0 with h0;subst h0;cases c with
  |true=>simp [LH] at h
  |false=>
   injection h with h;injection h with h1 h2;subst h1 h2;exact ⟨⟨e,0,rfl,.inl ⟨_,[],hb 0 _ rfl,by simp,rfl⟩⟩,UI.one (by show _=_;simp)⟩
 | .str _,nx,p0,p,q,h0,h,s,_=>by injection h0 with h0;subst h0;cases h
 | .nilf,nx,p0,p,q,h0,h,s,_=>by injection h0 with h0;subst h0;cases h
 | .rptr cs o,nx,p0,p,q,h0,h,s,_=>by
  simp only [vL] at h0;split at h0
  · injection h0 with h0;subst h0;cases h
  · cases h0
 | .clo f a b,nx,p0,p,q,h0,h,s,_=>by
  simp only [vL] at h0;split at h0
  · injection h0 with h0;subst h0;cases h
  · cases h0
 | .junk,_,_,_,_,h0,_,_,_| .undef,_,_,_,_,h0,_,_,_| .nul,_,_,_,_,h0,_,_,_| .own _ _,_,_,_,_,h0,_,_,_| .pre _ _ _ _,_,_,_,_,h0,_,_,_| .part _ _ _ _ _,_,_,_,_,h0,_,_,_
 | .pa _ _ _ _ _,_,_,_,_,h0,_,_,_| .pb _ _ _,_,_,_,_,h0,_,_,_| .bp _ _ _,_,_,_,_,h0,_,_,_| .mp _,_,_,_,_,h0,_,_,_=>by cases h0
theorem ownOfL_R: ∀{v:List SV} {nx:Nat} {p0 p:List PV} {q:cX},pvL v=some p0->ownPL nx p0=some (p,q)-> ∀{s:List SB},AF s nx (ownOfL nx v).2->RL s (ownOfL nx v).1 p/\UI s (ownOfL nx v).2 q
 | [],nx,p0,p,q,h0,h,s,_=>by injection h0 with h0;subst h0;injection h with h;injection h with h1 h2;subst h1 h2;exact ⟨rfl,UI.nil⟩
 |x::xs,nx,p0,p,q,h0,h,s,hb=>by
  obtain ⟨a,as,rfl,h1,h2⟩:=eL.1 h0;simp only [ownPL] at h;split at h
  · rename_i ra hra
    split at h
    · rename_i rb hrb
      injection h with h;injection h with e1 e2;subst e1 e2;simp only [ownOfL] at hb ⊢;obtain ⟨k1,k2⟩:=W0 (p:=ra.1) (q:=ra.2) h1 hra hb.left;rw [k2.1] at hrb;obtain ⟨k3,k4⟩:=ownOfL_R (p:=rb.1) (q:=rb.2) h2 hrb hb.right;exact ⟨RL.cons k1 k3,k2.append k4⟩
    · cases h
  · cases h
end
mutual
theorem aA0 {s:List SB} {ps:cX} {z:List Nat} (hS:cY s ps): ∀{v v':SV} {p:PV} {seen seen':List Nat} (nx:Nat),R s v p->Y5 s z seen v=some (v',seen')-> ∃p0 p' q,vL v'=some p0/\LH nx p0=some (p',q)/\DR ps z nx seen p=some (p',q,seen')
 | .int k n,v',p,seen,seen',nx,h,hx=>by injection hx with hx;injection hx with h1 h2;subst h1 h2;rw [show p=_ from h];exact ⟨_,_,_,rfl,rfl,rfl⟩
 | .bool k,v',p,seen,seen',nx,h,hx=>by injection hx with hx;injection hx with h1 h2;subst h1 h2;rw [show p=_ from h];exact ⟨_,_,_,rfl,rfl,rfl⟩
 | .agg cs,v',p,seen,seen',nx,h,hx=>by
  obtain ⟨q,rfl,h⟩:=h;simp only [Y5] at hx;split at hx
  · rename_i r hr
    injection hx with hx;injection hx with h1 h2;subst h1 h2;obtain ⟨p0,p',q',h3,h4,h5⟩:=imOVL_R hS (v':=r.1) (seen':=r.2) nx h hr;exact ⟨.agg p0,.agg p',q',by simp only [vL,h3],by simp only [LH,h4],by simp only [DR,h5];rfl⟩
  · cases hx
 | .tup cs,v',p,seen,seen',nx,h,hx=>by
  obtain ⟨q,rfl,h⟩:=h;simp only [Y5] at hx;split at hx
  · rename_i r hr
    injection hx with hx;injection hx with h1 h2;subst h1 h2;obtain ⟨p0,p',q',h3,h4,h5⟩:=imOVL_R hS (v':=r.1) (seen':=r.2) nx h hr;exact ⟨.tup p0,.tup p',q',by simp only [vL,h3],by simp only [LH,h4],by simp only [DR,h5];rfl⟩
  · cases hx
 | .nil e c,v',p,seen,seen',nx,h,hx=>by
  cases c with
  |false=>cases hx
  |true=>injection hx with hx;injection hx with h1 h2;subst h1 h2;rw [show p=_ from h];exact ⟨_,_,_,rfl,rfl,rfl⟩
 | .own t ex,v',p,seen,seen',nx,h,hx=>by
  obtain ⟨e,n,rfl,hat⟩:=h;simp only [Y5,cR] at hx;split at hx
  · rename_i r l hst
    obtain ⟨rfl,rfl⟩:=hat.inv hst;cases hc:(has seen t||has z t) with
    |true=>rw [hc] at hx;cases hx
    |false=>
     rw [hc] at hx;injection hx with hx;injection hx with h1 h2;subst h1 h2;refine ⟨_,_,_,rfl,rfl,?_⟩;simp only [DR,hS.arr hst,hc];simp
  · cases hx
 | .junk,_,_,_,_,_,_,hx| .undef,_,_,_,_,_,_,hx| .nul,_,_,_,_,_,_,hx| .nilf,_,_,_,_,_,_,hx| .str _,_,_,_,_,_,_,hx| .sl _ _,_,_,_,_,_,_,hx| .pre _ _ _ _,_,_,_,_,_,_,hx| .part _ _ _ _ _,_,_,_,_,_,_,hx
 | .pa _ _ _ _ _,_,_,_,_,_,_,hx| .pb _ _ _,_,_,_,_,_,_,hx| .bp _ _ _,_,_,_,_,_,_,hx| .rptr _ _,_,_,_,_,_,_,hx| .clo _ _ _,_,_,_,_,_,_,hx| .mp _,_,_,_,_,_,_,hx=>by cases hx
theorem imOVL_R {s:List SB} {ps:cX} {z:List Nat} (hS:cY s ps): ∀{v v':List SV} {p:List PV} {seen seen':List Nat} (nx:Nat),RL s v p->imOVL s z seen v=some (v',seen')-> ∃p0 p' q,pvL v'=some p0/\ownPL nx p0=some (p',q)/\imOL ps z nx seen p=some (p',q,seen')
 | [],v',p,seen,seen',nx,h,hx=>by injection hx with hx;injection hx with h1 h2;subst h1 h2;rw [show p=_ from h];exact ⟨_,_,_,rfl,rfl,rfl⟩
 |x::xs,v',p,seen,seen',nx,h,hx=>by
  obtain ⟨a,as,rfl,h1,h2⟩:=h.cons_inv;simp only [imOVL] at hx;split at hx
  · rename_i r hr
    split at hx
    · rename_i r2 hr2
      injection hx with hx;injection hx with e1 e2;subst e1 e2;obtain ⟨p0,p',q,k1,k2,k3⟩:=aA0 hS (v':=r.1) (seen':=r.2) nx h1 hr;obtain ⟨p02,p'2,q2,k4,k5,k6⟩:=imOVL_R hS (v':=r2.1) (seen':=r2.2) (nx+q.length) h2 hr2;exact ⟨p0::p02,p'::p'2,q++q2,eL.2 ⟨_,_,rfl,k1,k4⟩,by simp only [ownPL,k2,k5],by simp only [imOL,k3,k6]⟩
    · cases hx
  · cases hx
end
mutual
theorem RQ {s:List SB}: ∀{v:SV} {p:PV},R s v p->EL v=true->p.noref=true
 | .int _ _,p,h,_| .bool _,p,h,_| .str _,p,h,_=>by rw [show p=_ from h];rfl
 | .agg cs,p,h,hn=>by obtain ⟨q,rfl,h⟩:=h;exact norefSL_R h hn
 | .tup cs,p,h,hn=>by obtain ⟨q,rfl,h⟩:=h;exact norefSL_R h hn
 | .junk,_,_,h| .undef,_,_,h| .nul,_,_,h| .nilf,_,_,h| .sl _ _,_,_,h| .nil _ _,_,_,h| .own _ _,_,_,h| .pre _ _ _ _,_,_,h| .part _ _ _ _ _,_,_,h| .pa _ _ _ _ _,_,_,h| .pb _ _ _,_,_,h| .bp _ _ _,_,_,h| .rptr _ _,_,_,h| .clo _ _ _,_,_,h| .mp _,_,_,h=>by cases h
theorem norefSL_R {s:List SB}: ∀{v:List SV} {p:List PV},RL s v p->norefSL v=true->norefL p=true
 | [],p,h,_=>by rw [show p=_ from h];rfl
 |x::xs,p,h,hn=>by
  obtain ⟨a,as,rfl,h1,h2⟩:=h.cons_inv;simp only [norefSL,Bool.and_eq_true] at hn;simp only [norefL,RQ h1 hn.1,norefSL_R h2 hn.2,Bool.and_self]
end
mutual
theorem NL {s:List SB} {u:SV}: ∀{v:SV} {p:PV},R s v p->EL v=false->imV s v=some u->p.noref=false
 | .int _ _,p,h,hn,_| .bool _,p,h,hn,_| .str _,p,h,hn,_=>by cases hn
 | .agg cs,p,h,hn,hi=>by
  obtain ⟨q,rfl,h⟩:=h;simp only [imV] at hi;split at hi
  · rename_i l hl;exact yesrefSL_R h hn hl
  · cases hi
 | .tup cs,p,h,hn,hi=>by
  obtain ⟨q,rfl,h⟩:=h;simp only [imV] at hi;split at hi
  · rename_i l hl;exact yesrefSL_R h hn hl
  · cases hi
 | .sl _ _,p,h,_,_=>by rw [show p=_ from h];rfl
 | .nil _ _,p,h,_,_=>by rw [show p=_ from h];rfl
 | .own _ _,p,h,_,_=>by obtain ⟨e,n,rfl,_⟩:=h;rfl
 | .pre _ _ _ _,p,h,_,_=>by obtain ⟨e,rfl,_⟩:=h;rfl
 | .part _ _ _ _ _,p,h,_,_=>by obtain ⟨e,rfl,_⟩:=h;rfl
 | .junk,_,_,_,h| .undef,_,_,_,h| .nul,_,_,_,h| .nilf,_,_,_,h| .pa _ _ _ _ _,_,_,_,h| .pb _ _ _,_,_,_,h| .bp _ _ _,_,_,_,h| .rptr _ _,_,_,_,h| .clo _ _ _,_,_,_,h| .mp _,_,_,_,h=>by cases h
theorem yesrefSL_R {s:List SB}: ∀{v u:List SV} {p:List PV},RL s v p->norefSL v=false->imVL s v=some u->norefL p=false
 | [],u,p,h,hn,_=>by cases hn
 |x::xs,u,p,h,hn,hi=>by
  obtain ⟨a,as,rfl,h1,h2⟩:=h.cons_inv;simp only [imVL] at hi;split at hi
  · rename_i y ys h3 h4
    simp only [norefSL] at hn;simp only [norefL];cases hx:EL x with
    |false=>rw [NL h1 hx h3];rfl
    |true=>rw [hx] at hn;rw [yesrefSL_R h2 (by simpa using hn) h4];simp
  · cases hi
end
mutual
theorem aIP {s:List SB} {ps:cX} (hS:cY s ps): ∀{v u:SV} {p:PV},R s v p->imV s v=some u-> ∃q,CV ps p=some q/\vL u=some q
 | .int k n,u,p,h,hx=>by injection hx with hx;subst hx;rw [show p=_ from h];exact ⟨_,rfl,rfl⟩
 | .bool b,u,p,h,hx=>by injection hx with hx;subst hx;rw [show p=_ from h];exact ⟨_,rfl,rfl⟩
 | .str x,u,p,h,hx=>by injection hx with hx;subst hx;rw [show p=_ from h];exact ⟨_,rfl,rfl⟩
 | .agg cs,u,p,h,hx=>by
  obtain ⟨q,rfl,h⟩:=h;simp only [imV] at hx;split at hx
  · rename_i l hl
    injection hx with hx;subst hx;obtain ⟨q',h1,h2⟩:=imVL_R hS h hl;exact ⟨.agg q',by simp only [CV,h1];rfl,by simp only [vL,h2]⟩
  · cases hx
 | .tup cs,u,p,h,hx=>by
  obtain ⟨q,rfl,h⟩:=h;simp only [imV] at hx;split at hx
  · rename_i l hl
    injection hx with hx;subst hx;obtain ⟨q',h1,h2⟩:=imVL_R hS h hl;exact ⟨.tup q',by simp only [CV,h1];rfl,by simp only [vL,h2]⟩
  · cases hx
 | .sl r l,u,p,h,hx=>by injection hx with hx;subst hx;rw [show p=_ from h];exact ⟨_,rfl,rfl⟩
 | .nil e c,u,p,h,hx=>by injection hx with hx;subst hx;rw [show p=_ from h];exact ⟨_,rfl,rfl⟩
 | .own t ex,u,p,h,hx=>by
  simp only [imV,cR] at hx;split at hx
  · rename_i r l hst
    injection hx with hx;subst hx;obtain ⟨e,n,rfl,hat⟩:=h;obtain ⟨rfl,rfl⟩:=hat.inv hst;refine ⟨.sl r.length false (l.map (RT.pv r)),?_,rfl⟩;simp only [CV,hS.arr hst,List.drop_zero];rw [List.take_of_length_le (by simp)]
  · cases hx
 | .pre t len cap ex,u,p,h,hx=>by
  simp only [imV,cR] at hx;split at hx
  · rename_i r l hst
    injection hx with hx;subst hx;obtain ⟨e,rfl,hat⟩:=h
    have:=hat.inv hst
    subst this;refine ⟨.sl r.length false ((l.take len).map (RT.pv r)),?_,rfl⟩;simp only [CV,hS.arr hst,List.drop_zero,List.map_take]
  · cases hx
 | .part t off len cap ex,u,p,h,hx=>by
  simp only [imV,cR] at hx;split at hx
  · rename_i r l hst
    injection hx with hx;subst hx;obtain ⟨e,rfl,hat⟩:=h
    have:=hat.inv hst
    subst this;refine ⟨.sl r.length false (((l.drop off).take len).map (RT.pv r)),?_,rfl⟩;simp only [CV,hS.arr hst,List.map_take,List.map_drop]
  · cases hx
 | .junk,_,_,_,hx| .undef,_,_,_,hx| .nul,_,_,_,hx| .nilf,_,_,_,hx| .pa _ _ _ _ _,_,_,_,hx| .pb _ _ _,_,_,_,hx| .bp _ _ _,_,_,_,hx| .rptr _ _,_,_,_,hx| .clo _ _ _,_,_,_,hx| .mp _,_,_,_,hx=>by cases hx
theorem imVL_R {s:List SB} {ps:cX} (hS:cY s ps): ∀{v u:List SV} {p:List PV},RL s v p->imVL s v=some u-> ∃q,imFL ps p=some q/\pvL u=some q
 | [],u,p,h,hx=>by injection hx with hx;subst hx;rw [show p=_ from h];exact ⟨_,rfl,rfl⟩
 |x::xs,u,p,h,hx=>by
  obtain ⟨a,as,rfl,h1,h2⟩:=h.cons_inv;simp only [imVL] at hx;split at hx
  · rename_i y ys h3 h4
    injection hx with hx;subst hx;obtain ⟨q,h5,h6⟩:=aIP hS h1 h3;obtain ⟨qs,h7,h8⟩:=imVL_R hS h2 h4;exact ⟨q::qs,by simp only [imFL,h5,h7],eL.2 ⟨_,_,rfl,h6,h8⟩⟩
  · cases hx
end
mutual
theorem aA1 {s:List SB}: ∀{v:SV} {p:PV},vL v=some p->R s v p
 | .int _ _,p,h| .bool _,p,h| .str _,p,h| .nilf,p,h| .sl _ _,p,h| .nil _ _,p,h=>by injection h with h;exact h.symm
 | .agg cs,p,h=>by
  simp only [vL] at h;split at h
  · rename_i l hl;injection h with h;exact ⟨l,h.symm,pvL_R hl⟩
  · cases h
 | .tup cs,p,h=>by
  simp only [vL] at h;split at h
  · rename_i l hl;injection h with h;exact ⟨l,h.symm,pvL_R hl⟩
  · cases h
 | .rptr cs o,p,h=>by
  simp only [vL] at h;split at h
  · rename_i l hl;injection h with h;exact ⟨l,h.symm,pvL_R hl⟩
  · cases h
 | .clo f a b,p,h=>by
  simp only [vL] at h;split at h
  · rename_i x y h1 h2;injection h with h;exact ⟨x,y,h.symm,pvL_R h1,pvL_R h2⟩
  · cases h
 | .junk,_,h| .undef,_,h| .nul,_,h| .own _ _,_,h| .pre _ _ _ _,_,h| .part _ _ _ _ _,_,h| .pa _ _ _ _ _,_,h| .pb _ _ _,_,h| .bp _ _ _,_,h| .mp _,_,h=>by cases h
theorem pvL_R {s:List SB}: ∀{v:List SV} {p:List PV},pvL v=some p->RL s v p
 | [],p,h=>by injection h with h;exact h.symm
 |x::xs,p,h=>by
  obtain ⟨a,as,rfl,h1,h2⟩:=eL.1 h;exact RL.cons (aA1 h1) (pvL_R h2)
end
def aIQ (kd:Kd) (n:Nat) (tk:List Nat) (v:SV) (r:rA):Prop:=
 match kd with
 | .pure=> ∃p,vL v=some p/\r={v:=p,rd:=tk}
 | .frz=> ∃p,vL v=some p/\r={v:=p,rd:=tk,fr:=tk}
 | .own=> ∃p0 p q,vL v=some p0/\LH n p0=some (p,q)/\r={v:=p,news:=q,rd:=tk}
def aJ (F : oY) (f : FuncId) (c : bJ) : Prop :=
  ∀ (a : c.α) (b : c.β) (as args : List PV) (sto : cX) (fz : List Nat), c.fn a = some b -> pvL (c.args.enc a) = some args -> exL sto (BN sto eU) as = some args ->
    ∃ n r, callPure F (run F n) c.ow f as sto fz = some r /\ aIQ c.kd sto.length (toksL (dO sto eU) as) (c.res.enc b) r
def dV.va (c:dV) (a:lB c.ka):List SV:=(putL c.ta (oH c.ka a)).1
def dV.sa (c:dV) (a:lB c.ka):List SB:=(EM c.tb (putL c.ta (oH c.ka a)).2).1
def dV.vb (c:dV) (b:lB c.ko):SV:=(wP c.tv (oH c.ko b)).1
def dV.sb (c:dV) (b:lB c.ko):List SB:=(EM c.to (wP c.tv (oH c.ko b)).2).1
def aA2:SB->SB->Prop
 | .arr r l,.arr q m=>r=q/\m.length=l.length
 | .box _,.box _=>True
 | .set _,.set _=>True
 | .dead,.dead=>True
 |_,_=>False
def kW (F : oY) (f : FuncId) (c : dV) : Prop :=
  ∀ (a : lB c.ka) (b : lB c.ko) (pa : List PV) (ps : cX), c.fn a = some b -> RL (c.sa a) (c.va a) pa -> cY (c.sa a) ps ->
    ∃ n v s, run F n (.func f pa ps []) = some (.func v s []) /\ iH (c.sa a).length v s = true /\ R (c.sb b) (c.vb b) v /\ cY (c.sb b) (s.take (c.sa a).length) /\ (c.sb b).length = (c.sa a).length /\
      ∀ (t : Nat) (x y : SB), (c.sa a)[t]? = some x -> (c.sb b)[t]? = some y -> aA2 x y
def EU (F:oY):List (Nat×bJ)->Prop
 | []=>True
 |(f,c)::r=>aJ F f c/\EU F r
def NM (F:oY):List (Nat×dV)->Prop
 | []=>True
 |(f,c)::r=>kW F f c/\NM F r
def F4 (F:oY):List (Nat×aN)->Prop
 | []=>True
 |(f,x)::r=>F f=some (.code x)/\F4 F r
structure mK (F:oY) (cx:Z4):Prop where
 con: ∀f c,c∈cx.con f->aJ F f c
 fpc: ∀f c,c∈cx.fpc f->kW F f c
 code: ∀f x,cx.code f=some x->F f=some (.code x)
theorem EU.mem {F:oY}: ∀{l:List (Nat×bJ)},EU F l-> ∀f c,c∈RG l f->aJ F f c
 | [],_,f,c,h=>by cases h
 |(g,d)::r,hl,f,c,h=>by
  simp only [RG] at h;cases hb:Nat.beq g f with
  |true=>
   rw [hb] at h
   have:=Nat.eq_of_beq_eq_true hb
   subst this;simp only [cond_true] at h;rcases h with _|⟨_,h⟩
   · exact hl.1
   · exact EU.mem hl.2 _ c h
  |false=>rw [hb] at h;exact EU.mem hl.2 f c h
theorem NM.mem {F:oY}: ∀{l:List (Nat×dV)},NM F l-> ∀f c,c∈RH l f->kW F f c
 | [],_,f,c,h=>by cases h
 |(g,d)::r,hl,f,c,h=>by
  simp only [RH] at h;cases hb:Nat.beq g f with
  |true=>
   rw [hb] at h
   have:=Nat.eq_of_beq_eq_true hb
   subst this;simp only [cond_true] at h;rcases h with _|⟨_,h⟩
   · exact hl.1
   · exact NM.mem hl.2 _ c h
  |false=>rw [hb] at h;exact NM.mem hl.2 f c h
theorem F4.mem {F:oY}: ∀{l:List (Nat×aN)},F4 F l-> ∀f x,O0 l f=some x->F f=some (.code x)
 | [],_,f,c,h=>by cases h
 |(g,d)::r,hl,f,c,h=>by
  simp only [O0] at h;cases hb:Nat.beq g f with
  |true=>
   rw [hb] at h
   have:=Nat.eq_of_beq_eq_true hb
   subst this;injection h with h;subst h;exact hl.1
  |false=>rw [hb] at h;exact F4.mem hl.2 f c h
theorem mK.make {F:oY} {lp:Option Nat} {c:List (Nat×bJ)} {p:List (Nat×dV)} {x:List (Nat×aN)} {rk:List (Nat×List PT)} (h1:EU F c) (h2:NM F p) (h3:F4 F x):mK F (pW lp c p x rk):=
 ⟨h1.mem,h2.mem,h3.mem⟩
section
variable {F : oY} {R' ρ : Type} {w : R' -> ρ} {y : ρ} {s : List SB} {ps : cX} {z : List Nat}
theorem B7 {f:FuncId} {m:Bool} {tk:List Nat} {vs:List SV} {k:XRS->jN R'} (hS:cY s ps) {as args:List PV} (hx:exL ps (BN ps eU) as=some args) (hv:pvL vs=some args) (htk:tk=toksL (dO ps eU) as):
 ∀{l:List bJ},(∀c∈l,aJ F f c)->UA f m s tk vs k l ρ w=some y-> ∃sr pr,(∃n,callPure F (run F n) m f as ps z=some pr)/\jC s ps sr pr/\k (.loc sr) ρ w=some y
 | [],_,h=>by cases h
 |c::l,hl,h=>by
  simp only [UA] at h;cases hd:c.args.dec vs with
  |none=>rw [hd] at h;exact B7 hS hx hv htk (fun c hc=>hl c (List.mem_cons_of_mem _ hc)) h
  |some a=>
   rw [hd] at h;cases hmo:(m==c.ow) with
   |false=>
    rw [hmo] at h;exact B7 hS hx hv htk (fun c hc=>hl c (List.mem_cons_of_mem _ hc)) h
   |true=>
   rw [hmo] at h;obtain ⟨b,hb,h2⟩:=dR h;have hm:m=c.ow:=by simpa using hmo
   subst hm;have henc:=c.args.law hd hv;obtain ⟨n,r,hr,hres⟩:=hl c (List.mem_cons_self ..) a b as args ps z hb henc hx;cases hkd:c.kd with
   |pure=>
    rw [hkd] at h2 hres;obtain ⟨p,h3,rfl⟩:=hres;exact ⟨_,_,⟨n,hr⟩,by rw [<- htk];exact jC.val hS (aA1 h3),h2⟩
   |frz=>
    rw [hkd] at h2 hres;obtain ⟨p,h3,rfl⟩:=hres;exact ⟨_,_,⟨n,hr⟩,by rw [<- htk];exact jC.val hS (aA1 h3),h2⟩
   |own=>
    rw [hkd] at h2 hres;obtain ⟨p0,p,q,h3,h4,rfl⟩:=hres;rw [hS.len] at h4;have hbh:AF (s++(B3 s.length (c.res.enc b)).2) s.length (B3 s.length (c.res.enc b)).2:=fun j x hj=>by
     rw [List.getElem?_append_right (by omega)];simpa using hj
    obtain ⟨k1,k2⟩:=W0 h3 h4 hbh;exact ⟨_,_,⟨n,hr⟩,by rw [<- htk];exact jC.news hS k2.1 k2.2 k1,h2⟩
end
end Go.Vm
/- A call of a function that works on the blocks that are lent to it. -/
namespace Go.Vm
def uD {α:Type}:List (Nat×α)->List α->List α
 | [],s=>s
 |(t,b)::r,s=>uD r (s.set t b)
theorem AG: ∀(l:List (Nat×SB)) (s:List SB),uC l s=uD l s
 | [],s=>rfl
 |(t,b)::r,s=>by simp only [uC,uD,FV,AG r]
theorem IU: ∀(l:List (Nat×mL)) (s:cX),iT l s=uD l s
 | [],s=>rfl
 |(t,b)::r,s=>by simp only [iT,uD,IU r]
theorem EV {α:Type}: ∀(l:List (Nat×α)) (s:List α),(uD l s).length=s.length
 | [],s=>rfl
 |(t,b)::r,s=>by simp [uD,EV r]
theorem AH {α:Type}: ∀(l:List (Nat×α)) (s:List α) (t:Nat),t∉l.map (·.1)->(uD l s)[t]? =s[t]?
 | [],s,t,_=>rfl
 |(u,b)::r,s,t,h=>by
  simp only [List.map_cons,List.mem_cons,not_or] at h;simp only [uD];rw [AH r _ t h.2,List.getElem?_set];simp [Ne.symm h.1]
theorem HR {α:Type}: ∀(l:List (Nat×α)) (s:List α) (j t:Nat) (b:α),(l.map (·.1)).Nodup->l[j]? =some (t,b)->t<s.length->(uD l s)[t]? =some b
 | [],s,j,t,b,_,h,_=>by simp at h
 |(u,c)::r,s,0,t,b,hn,h,ht=>by
  simp at h;obtain ⟨rfl,rfl⟩:=h;simp only [List.map_cons,List.nodup_cons] at hn;simp only [uD];rw [AH r _ u hn.1,List.getElem?_set];simp [ht]
 |(u,c)::r,s,j+1,t,b,hn,h,ht=>by
  simp only [List.map_cons,List.nodup_cons] at hn;simp only [uD];exact HR r _ j t b hn.2 (by simpa using h) (by simpa using ht)
theorem F5: ∀(l:List (Nat×SB)),B4 l=l.map (·.1)
 | []=>rfl
 |(t,b)::r=>by simp [B4,F5 r]
theorem NN (g:Nat->Nat): ∀(tk:List Nat) (s:List SB),s.length=tk.length->(D1 g tk s).map (·.1)=tk/\ ∀(j t:Nat) (b:SB),tk[j]? =some t->s[j]? =some b->(D1 g tk s)[j]? =some (t,aAD g b)
 | [],s,h=>⟨by simp [D1],fun j t b hj=>by simp at hj⟩
 |t::tk,[],h=>by simp at h
 |t::tk,b::s,h=>by
  obtain ⟨h1,h2⟩:=NN g tk s (by simpa using h)
  refine ⟨by simp [D1,h1],fun j u c hj hc=>?_⟩
  cases j with
  |zero=>simp at hj hc;subst hj hc;rfl
  |succ j=>simp only [D1,List.getElem?_cons_succ];exact h2 j u c (by simpa using hj) (by simpa using hc)
theorem LJ (g:Nat->Nat): ∀(tk:List Nat) (s:cX),tk.length<=s.length->(rG g tk s).map (·.1)=tk/\ ∀(j t:Nat) (b:mL),tk[j]? =some t->s[j]? =some b->(rG g tk s)[j]? =some (t,DS g b)
 | [],s,h=>⟨by simp [rG],fun j t b hj=>by simp at hj⟩
 |t::tk,[],h=>by simp at h
 |t::tk,b::s,h=>by
  obtain ⟨h1,h2⟩:=LJ g tk s (by simpa using h)
  refine ⟨by simp [rG,h1],fun j u c hj hc=>?_⟩
  cases j with
  |zero=>simp at hj hc;subst hj hc;rfl
  |succ j=>simp only [rG,List.getElem?_cons_succ];exact h2 j u c (by simpa using hj) (by simpa using hc)
theorem NO: ∀{l:List (Nat×mL)},(l.map (·.1)).Nodup->zN l=true
 | [],_=>rfl
 |p::r,h=>by
  simp only [List.map_cons,List.nodup_cons] at h;simp only [zN,Bool.and_eq_true,List.all_eq_true,Bool.not_eq_true'];refine ⟨fun q hq=>?_,NO h.2⟩
  cases hb:Nat.beq q.1 p.1 with
  |false=>rfl
  |true=>exact absurd (List.mem_map.2 ⟨q,hq,Nat.eq_of_beq_eq_true hb⟩) h.1
theorem O6: ∀(s:List SB),IQ [] s=s
 | []=>rfl
 |b::r=>by
  simp only [IQ,O6 r];cases b<;>simp [dgB,dgL_nil]
theorem RR (s:List SB) (r:iV):r.stoOf s=IQ (B4 r.wr) (uC r.wr s)++r.news:=by
 unfold iV.stoOf;split
 · rename_i h;rw [h];simp only [B4,uC,O6,nZ]
 · simp only [nZ]
def aJe (g:Nat->Nat) (s s2:List SB):Prop:= ∀(u:Nat) (x:SB),s[u]? =some x->match x with
 | .arr r l=>s2[g u]? =some (.arr r l)
 | .dead=>s2[g u]? =some .dead
 |_=>True
mutual
theorem W3 {g:Nat->Nat} {s s2:List SB} (hb:aJe g s s2): ∀{v:SV} {p:PV},R s v p->R s2 (RD g v) (renF g p)
 | .junk,_,_=>trivial
 | .undef,p,h| .nul,p,h| .nilf,p,h| .int _ _,p,h| .bool _,p,h| .str _,p,h| .sl _ _,p,h| .nil _ _,p,h| .bp _ _ _,p,h| .mp _,p,h=>by rw [show p=_ from h];rfl
 | .agg cs,p,h=>by obtain ⟨q,rfl,h⟩:=h;exact ⟨_,rfl,backL_R hb h⟩
 | .tup cs,p,h=>by obtain ⟨q,rfl,h⟩:=h;exact ⟨_,rfl,backL_R hb h⟩
 | .rptr cs o,p,h=>by obtain ⟨q,rfl,h⟩:=h;exact ⟨_,rfl,backL_R hb h⟩
 | .clo f a b,p,h=>by obtain ⟨pa,pb,rfl,h1,h2⟩:=h;exact ⟨_,_,rfl,backL_R hb h1,backL_R hb h2⟩
 | .own t ex,p,h=>by
  obtain ⟨e,n,rfl,hat⟩:=h;refine ⟨e,n,rfl,?_⟩;rcases hat with ⟨r,l,h1,h2,h3⟩|h1
  · exact .inl ⟨r,l,hb t _ h1,h2,h3⟩
  · exact .inr (hb t _ h1)
 | .pre t a b c,p,h=>by
  obtain ⟨e,rfl,hat⟩:=h;refine ⟨e,rfl,?_⟩;rcases hat with ⟨r,l,h1,h2⟩|h1
  · exact .inl ⟨r,l,hb t _ h1,h2⟩
  · exact .inr (hb t _ h1)
 | .part t o a b c,p,h=>by
  obtain ⟨e,rfl,hat⟩:=h;refine ⟨e,rfl,?_⟩;rcases hat with ⟨r,l,h1,h2⟩|h1
  · exact .inl ⟨r,l,hb t _ h1,h2⟩
  · exact .inr (hb t _ h1)
 | .pa t r i a o,p,h=>by
  obtain ⟨rfl,hat⟩:=h;refine ⟨_,rfl,?_⟩;rcases hat with ⟨l,h1,h2⟩|h1
  · exact .inl ⟨r,l,hb t _ h1,by rw [h2];rfl⟩
  · exact .inr (hb t _ h1)
 | .pb t i o,p,h=>by
  obtain ⟨e,rfl,hat⟩:=h;refine ⟨e,rfl,?_⟩;rcases hat with ⟨r,l,h1,h2⟩|h1
  · exact .inl ⟨r,l,hb t _ h1,h2⟩
  · exact .inr (hb t _ h1)
theorem backL_R {g:Nat->Nat} {s s2:List SB} (hb:aJe g s s2): ∀{v:List SV} {p:List PV},RL s v p->RL s2 (backL g v) (renFL g p)
 | [],p,h=>by rw [show p=_ from h];rfl
 |x::xs,p,h=>by
  obtain ⟨a,as,rfl,h1,h2⟩:=h.cons_inv;exact RL.cons (W3 hb h1) (backL_R hb h2)
end
theorem LK: ∀{a b:cX},(∀(t:Nat) (x:mL),a[t]? =some x-> ∃y,b[t]? =some y/\x.solid=y.solid)->zL a b=true
 | [],b,_=>by cases b<;>rfl
 |x::a,[],h=>by obtain ⟨y,hy,_⟩:=h 0 x rfl;simp at hy
 |x::a,y::b,h=>by
  obtain ⟨y',h1,h2⟩:=h 0 x rfl;simp at h1;subst h1
  have:=LK (a:=a) (b:=b) (fun t x hx=>by simpa using h (t+1) x (by simpa using hx))
  simp only [zL,this,Bool.and_true,h2];cases y.solid<;>rfl
section
variable {F : oY} {R' ρ : Type} {w : R' -> ρ} {y : ρ} {s : List SB} {ps : cX} {z : List Nat}
theorem W4 {f:FuncId} {tk:List Nat} {vals vs:List SV} {s0:List SB} {k:XRS->jN R'} (hS:cY s ps) {pas:List PV} (hv:RL s vals pas) (htk:tk=rC (toksL (dO ps eU) pas)) (hz:(tk.all fun t=>!has z t)=true)
 (h1:renVL tk vals=some vs) (h2:MV s tk tk=some s0):
 ∀{l:List dV},(∀c∈l,kW F f c)->fpS f s.length tk vs s0 k l ρ w=some y-> ∃sr pr,(∃n,xQ (run F n) f pas ps z=some pr)/\jC s ps sr pr/\k (.loc sr) ρ w=some y
 | [],_,h=>by cases h
 |c::l,hl,h=>by
  have next:fpS f s.length tk vs s0 k l ρ w=some y-> ∃sr pr,(∃n,xQ (run F n) f pas ps z=some pr)/\jC s ps sr pr/\k (.loc sr) ρ w=some y:=
   fun h=>W4 hS hv htk hz h1 h2 (fun c hc=>hl c (List.mem_cons_of_mem _ hc)) h
  simp only [fpS] at h;cases hlk:(likeL c.ta vs&&K3 c.tb s0) with
  |false=>rw [hlk] at h;exact next h
  |true=>
   rw [hlk] at h;simp only [cond_true] at h;cases hpo:uB c.ka (atsL vs++OY s0) with
   |none=>rw [hpo] at h;exact next h
   |some a=>
    rw [hpo] at h;obtain ⟨b,hb,h3⟩:=dR h;simp only [Bool.and_eq_true] at hlk;have hats:=vN hpo;have hva:c.va a=vs:=by unfold dV.va;rw [hats,put_atsL _ hlk.1]
    have hsa:c.sa a=s0:=by
     unfold dV.sa;rw [hats,put_atsL _ hlk.1]
     have:=F3 [] hlk.2
     rw [List.append_nil] at this;rw [this]
    have hren:LG tk s s0:=by have:=LG.of (l:=[]) h2;rwa [List.append_nil] at this
    obtain ⟨pa',a1,a2⟩:=renVL_R hren hv h1;obtain ⟨p0,b1,b2,b3⟩:=HN hS hren h2;have hs0:cY s0 p0:=⟨b2,b3⟩;obtain ⟨hs0l,hs0g⟩:=B6 h2;obtain ⟨n,v,sr,r1,r2,r3,r4,r5,r6⟩:=hl c (List.mem_cons_self ..) a b pa' p0 hb (by rw [hva,hsa];exact a2) (by rw [hsa];exact hs0)
    rw [hsa] at r2 r4 r5 r6;have hnd:tk.Nodup:=by rw [htk];exact wW
    have htl: ∀t∈tk,t<s.length:=fun t ht=>by
     obtain ⟨j,hj,he⟩:=List.getElem_of_mem ht;obtain ⟨x,c',d1,_,_⟩:=hs0g j t (by rw [List.getElem?_eq_getElem hj,he])
     exact (List.getElem?_eq_some_iff.1 d1).1
    have hsbl:(c.sb b).length=tk.length:=by rw [r5,hs0l]
    have hsrl:tk.length<=sr.length:=by
     have:=r4.len
     rw [List.length_take,hsbl] at this;rw [hs0l] at this;omega
    have htake: ∀j,j<tk.length->(sr.take s0.length)[j]? =sr[j]?:=fun j hj=>List.getElem?_take_of_lt (by rw [hs0l];exact hj)
    have hfirm:zL p0 sr=true:=LK (fun t x hx=>by
     have htl':t<s0.length:=by have:=(List.getElem?_eq_some_iff.1 hx).1;rw [b2] at this;exact this
     obtain ⟨x0,hx0⟩: ∃x0,s0[t]? =some x0:=⟨s0[t],List.getElem?_eq_getElem htl'⟩;obtain ⟨q,q1,q2⟩:=b3 t x0 hx0;rw [hx] at q1;injection q1 with q1;subst q1;obtain ⟨y0,hy0⟩: ∃y0,(c.sb b)[t]? =some y0:=⟨(c.sb b)[t]'(by omega),List.getElem?_eq_getElem (by omega)⟩
     obtain ⟨q',q3,q4⟩:=r4.at_ t y0 hy0;rw [htake t (by omega)] at q3
     refine ⟨q',q3,?_⟩;have hfm:=r6 t x0 y0 hx0 hy0;cases x0 with
     |arr r l=>cases y0 with
      |arr r' l'=>
       obtain ⟨rfl,hll⟩:=hfm;rw [show x=_ from q2,show q'=_ from q4];cases l<;>cases l'<;>simp_all [mL.solid]
      |_=>exact hfm.elim
     |box cs=>cases y0 with
      |box cs'=>obtain ⟨_,rfl,_⟩:=q2;obtain ⟨_,rfl,_⟩:=q4;rfl
      |_=>exact hfm.elim
     |set l=>cases y0 with
      |set l'=>rw [show x=_ from q2,show q'=_ from q4];rfl
      |_=>exact hfm.elim
     |dead=>cases y0 with
      |dead=>rw [show x=_ from q2,show q'=_ from q4]
      |_=>exact hfm.elim)
    let g:=lH tk s.length
    have hg: ∀j t,tk[j]? =some t->g j=t:=fun j t hj=>by show lH tk s.length j=t;unfold lH;rw [hj]
    obtain ⟨w1,w2⟩:=NN g tk (c.sb b) hsbl;obtain ⟨u1,u2⟩:=LJ g tk sr hsrl
    let s2:=IQ tk (uC (D1 g tk (c.sb b)) s)
    have hin: ∀(j t:Nat) (x:SB),tk[j]? =some t->(c.sb b)[j]? =some x->s2[t]? =some (dgB tk (aAD g x)):=fun j t x hj hx=>by
     show (IQ tk _)[t]? =_;rw [AB,AG,HR _ s j t _ (by rw [w1];exact hnd) (w2 j t x hj hx) (htl t (List.mem_of_getElem? hj))]
     rfl
    have hout: ∀(t:Nat),t∉tk->s2[t]? =(s[t]?).map (dgB tk):=fun t ht=>by
     show (IQ tk _)[t]? =_;rw [AB,AG,AH _ s t (by rw [w1];exact ht)]
    have hmem: ∀t∈tk,∃j,tk[j]? =some t:=fun t ht=>by
     obtain ⟨j,hj,he⟩:=List.getElem_of_mem ht;exact ⟨j,by rw [List.getElem?_eq_getElem hj,he]⟩
    have hfr:Fr tk s s2:=fun t x hx=>by
     by_cases ht:t∈tk
     · obtain ⟨j,hj⟩:=hmem t ht
       have hjl:j<tk.length:=(List.getElem?_eq_some_iff.1 hj).1;obtain ⟨x',c',d1,d2,d3⟩:=hs0g j t hj;rw [hx] at d1;injection d1 with d1;subst d1;obtain ⟨y0,hy0⟩: ∃y0,(c.sb b)[j]? =some y0:=⟨(c.sb b)[j]'(by omega),List.getElem?_eq_getElem (by omega)⟩
       have hfm:=r6 j c' y0 d3 hy0;have hs2:=hin j t y0 hj hy0;cases x with
       |arr r l=>
        injection d2 with d2;subst d2;cases y0 with
        |arr r' l'=>
         obtain ⟨rfl,hll⟩:=hfm;refine .inl ⟨l',hs2,hll,fun hb=>?_⟩
         exfalso
         have:has tk t=true:=by unfold has;rw [List.any_eq_true];exact ⟨t,ht,by simp⟩
         rw [this] at hb;cases hb
        |_=>exact hfm.elim
       |dead=>
        injection d2 with d2;subst d2;cases y0 with
        |dead=>exact hs2
        |_=>exact hfm.elim
       |_=>trivial
     · have:=hout t ht
       rw [hx] at this;cases x with
       |arr r l=>exact .inl ⟨l,this,rfl,fun _=>rfl⟩
       |dead=>exact this
       |_=>trivial
    have hback:aJe g (c.sb b) s2:=fun u x hx=>by
     have hul:u<tk.length:=by have:=(List.getElem?_eq_some_iff.1 hx).1;omega
     have hj:tk[u]? =some tk[u]:=List.getElem?_eq_getElem hul
     have:=hin u _ x hj hx
     rw [hg u _ hj];cases x with
     |arr r l=>exact this
     |dead=>exact this
     |_=>trivial
    have hRes:(∃n,xQ (run F n) f pas ps z=some {v:=renF g v,wr:=rG g tk sr}):=by
     refine ⟨n,?_⟩;unfold xQ aCe;rw [<- htk,if_pos hz,a1,b1];dsimp only;rw [r1];dsimp only;unfold J3;rw [if_pos hfirm,hS.len]
     have:iH tk.length v sr=true:=by rw [<- hs0l];exact r2
     rw [if_pos this]
    refine ⟨{v:=RD g (c.vb b),wr:=D1 g tk (c.sb b)},_,hRes,?_,h3⟩;have hst:iV.stoOf s {v:=RD g (c.vb b),wr:=D1 g tk (c.sb b)}=s2:=by
     rw [RR,List.append_nil,F5,w1]
    exact {
     rd:=rfl
     fr:=rfl
     wr:=by rw [F5,w1];exact u1
     nw:=NO (by rw [u1];exact hnd)
     nl:=rfl
     sto:=by
      rw [hst];show cY s2 (iT (rG g tk sr) ps);rw [IU];refine ⟨by rw [EV,FW,AG,EV,hS.len],fun t x hx=>?_⟩
      by_cases ht:t∈tk
      · obtain ⟨j,hj⟩:=hmem t ht
        have hjl:j<tk.length:=(List.getElem?_eq_some_iff.1 hj).1;obtain ⟨y0,hy0⟩: ∃y0,(c.sb b)[j]? =some y0:=⟨(c.sb b)[j]'(by omega),List.getElem?_eq_getElem (by omega)⟩
        have hs2:=hin j t y0 hj hy0;rw [hx] at hs2;injection hs2 with hs2;subst hs2;obtain ⟨q',q3,q4⟩:=r4.at_ j y0 hy0;rw [htake j hjl] at q3;refine ⟨DS g q',HR _ ps j t _ (by rw [u1];exact hnd) (u2 j t q' hj q3) (by rw [hS.len];exact htl t ht),?_⟩
        cases y0 with
        |box cs=>
         obtain ⟨pc,rfl,hpc⟩:=q4;exact ⟨_,rfl,RL.fr (Fr.refl tk s2) (backL_R hback hpc)⟩
        |arr r l=>rw [show q'=_ from q4];rfl
        |set l=>rw [show q'=_ from q4];rfl
        |dead=>rw [show q'=_ from q4];rfl
      · rw [hout t ht,Option.map_eq_some_iff] at hx
        obtain ⟨x0,hx0,rfl⟩:=hx;obtain ⟨q,q1,q2⟩:=hS.at_ t x0 hx0;exact ⟨q,by rw [AH _ ps t (by rw [u1];exact ht)];exact q1,q2.fr hfr⟩
     v:=by rw [hst];exact W3 hback r3
     fra:=by rw [hst,F5,w1];exact hfr}
end
end Go.Vm
/- What the typed machine makes of a function is what the logical machine runs. -/
namespace Go.Vm
section
variable {F : oY}
theorem WO.shrAny {o:bQ} {r:List bQ} {st:St} {tr:List Tr} {Q:St->List Tr->Prop} {f:FuncId} {args:List PV}
 (hw:wanted o.guard st.env=some true) (hop: ∀n,A7 F (run F n) st.env st.sto st.fz o.op=gC (run F n) f args st.sto st.fz)
 (h:J6 F f args st.sto st.fz fun v s z=>(Nat.ble st.sto.length s.length&&st.fz.all (has z))=true/\WO F r {st with env:=iX o.dst v st.env,sto:=s,fz:=z} (aAC::tr) Q):
 WO F (o::r) st tr Q:=by
 obtain ⟨n,v,s,z,hr,hc,hk⟩:=h;refine WO.call (.shr v s z) hw ⟨n,?_⟩ rfl hk;rw [hop];simp only [gC,hr];rw [if_pos hc]
theorem WP.again {live:List (Nat×Option Nat)} {b:kX} {st s1:St} {Q:iD->St->Prop} (h0:I7 live st=some s1) (h:WP F b s1 (JJ (fun s=>WP F (.loop live b) s Q) Q)):WP F (.loop live b) st Q:=by
 obtain ⟨m,e,s,he,hq⟩:=h;cases e with
 |normal=>
  obtain ⟨k,e',s',he',hq'⟩:=hq;refine ⟨max m k+1,e',s',?_,hq'⟩;simp only [wN] at he' ⊢;rw [tF];simp only [step,h0];rw [tE (tG F (Nat.le_max_left m k)) _ _ _ he];dsimp only;split at he'
  · rename_i e1 s1 hr1
    rw [tG F (Nat.le_max_right m k) _ _ hr1];exact he'
  · cases he'
 |exit i=>exact ⟨m+1,.exit i,s,by simp only [wN];rw [tF];simp only [step,h0,he],hq⟩
 |ret=>exact ⟨m+1,.ret,s,by simp only [wN];rw [tF];simp only [step,h0,he],hq⟩
def RS (F : oY) (inl : Inl) : Prop :=
  ∀ (f : FuncId) (args : List SV) (s : List SB) (z : List Nat) (R' : Type) (k : SV -> List SB -> List Nat -> jN R') (ρ : Type) (w : R' -> ρ) (y : ρ) (pa : List PV) (ps : cX) (Q : R' -> PV -> cX -> List Nat -> Prop),
    RL s args pa -> cY s ps -> inl f args s z R' k ρ w = some y ->
    (∀ v s' z' p ps' ρ' (w' : R' -> ρ') y', R s' v p -> cY s' ps' -> k v s' z' ρ' w' = some y' -> ∃ r, y' = w' r /\ Q r p ps' z') ->
    ∃ r, y = w r /\ J6 F f pa ps z (fun p ps' z' => Q r p ps' z')
def W5:SB->SB->Prop
 | .arr r l,b=>(∃l',b= .arr r l'/\l'.length=l.length)\/b= .dead
 | .dead,b=>b= .dead
 |_,_=>True
theorem F6 {R' ρ:Type} {w:R'->ρ} {y:ρ}: ∀{s s':List SB} {k:jN R'},wX s s' k ρ w=some y->k ρ w=some y/\s.length<=s'.length/\
 ∀(t:Nat) (b:SB),s[t]? =some b-> ∃b',s'[t]? =some b'/\W5 b b'
 | [],s',k,h=>⟨by cases s'<;>exact h,Nat.zero_le _,fun t b ht=>by simp at ht⟩
 |x::xs,[],k,h=>by cases h
 |x::xs,y'::ys,k,h=>by
  have step: ∀(_:wX xs ys k ρ w=some y) (_:W5 x y'),k ρ w=some y/\(x::xs).length<=(y'::ys).length/\ ∀(t:Nat) (b:SB),(x::xs)[t]? =some b-> ∃b',(y'::ys)[t]? =some b'/\W5 b b':=by
   intro h hx;obtain ⟨h1,h2,h3⟩:=F6 h;refine ⟨h1,by simpa using h2,fun t b ht=>?_⟩
   cases t with
   |zero=>simp at ht;subst ht;exact ⟨y',rfl,hx⟩
   |succ t=>simpa using h3 t b (by simpa using ht)
  cases x with
  |arr r l=>
   cases y' with
   |arr q m=>
    obtain ⟨hr,h2⟩:=cV (a:=gV (m.length==l.length) (wX xs ys k) aS) h;obtain ⟨hl,h3⟩:=iJ h2
    have:=yW hr
    subst this;exact step h3 (.inl ⟨m,rfl,by simpa using hl⟩)
   |dead=>exact step h (.inr rfl)
   |_=>cases h
  |dead=>
   cases y' with
   |dead=>exact step h rfl
   |_=>cases h
  |box cs=>exact step h trivial
  |set l=>exact step h trivial
theorem aA3 {n t:Nat} (h:t<n):has (yM n) t=true:=by
 induction n with
 |zero=>omega
 |succ n ih=>
  unfold has at ih ⊢;rw [List.any_eq_true] at*;simp only [yM,List.mem_append,List.mem_singleton];rcases Nat.lt_or_ge t n with h1|h1
  · obtain ⟨x,h2,h3⟩:=ih h1
    exact ⟨x,.inl h2,h3⟩
  · have:t=n:=by omega
    subst this;exact ⟨t,.inr rfl,by simp⟩
theorem UJ {s s':List SB} (h: ∀(t:Nat) (b:SB),s[t]? =some b-> ∃b',s'[t]? =some b'/\W5 b b'):Fr (yM s.length) s s':=fun t b hb=>by
 obtain ⟨b',h1,h2⟩:=h t b hb;have hlt:=(List.getElem?_eq_some_iff.1 hb).1;cases b with
 |arr r l=>
  rcases h2 with ⟨l',rfl,h3⟩|rfl
  · exact .inl ⟨l',h1,h3,fun hx=>by rw [aA3 hlt] at hx;cases hx⟩
  · exact .inr h1
 |dead=>rw [show b'= .dead from h2] at h1;exact h1
 |_=>trivial
theorem aO3 {s:List SB} {ps:cX} {sr:iV} {pr:rA} (G:jC s ps sr pr) (hS:cY s ps):(XR.loc pr).tr ps.length=sr.tr s.length:=by
 simp only [XR.tr,iV.tr,G.rd,G.fr,hS.len,<- G.wr,G.nl,List.all_map]
 have:pr.news.isEmpty=sr.news.isEmpty:=by
  have:=G.nl
  cases h1:pr.news<;>cases h2:sr.news<;>simp_all
 rw [this];rfl
theorem aJf {st:tK} {p:St} (h:D3 st p) {sr:iV} {pr:rA} (G:jC st.sto p.sto sr pr) (d:Option Nat):D3 (sr.next d st) ((XR.loc pr).next d p):=by
 have hput: ∀{s:List SB} {e:SE} {pe:wK} {v:SV} {q:PV},dW s e pe->R s v q->dW s (OZ d v e) (iX d q pe):=by
  intro s e pe v q he hv;cases d with
  |none=>exact he
  |some t=>exact ⟨q,pe,rfl,hv,he⟩
 have hs:=RR st.sto sr;unfold iV.next
 split
 · rename_i hw
   rw [hw] at hs;simp only [B4,uC,O6] at hs;have hsto:=G.sto;have hv:=G.v;have hfr:=G.fra;rw [hs] at hsto hv hfr;rw [hw] at hfr;exact ⟨by simp only [nZ];exact hput (dW.ext hfr h.env) hv,by simp only [nZ];exact hsto,by simp only [XR.next,G.fr,h.fz],h.kn⟩
 · have hsto:=G.sto
   have hv:=G.v;have hfr:=G.fra;rw [hs] at hsto hv hfr;exact ⟨by simp only [nZ];exact hput (dW.fr hfr h.env) hv,by simp only [nZ];exact hsto,by simp only [XR.next,G.fr,h.fz],h.kn⟩
theorem aO4 {s:List SB} {ps:cX} {sr:iV} {pr:rA} (G:jC s ps sr pr) {z:List Nat} (h:sr.ok z=true):(XR.loc pr).ok z=true:=by
 simp only [XR.ok,G.nw,Bool.and_true];unfold iV.ok at h;rw [<- G.wr,List.all_map] at h;exact h
section
variable {cx : Z4} {inl : Inl} {R' : Type}
def aRA (_F:oY) (k:tK->List Tr->jN R') (Q:R'->St->List Tr->Prop):Prop:=
 ∀st p tr ρ (w:R'->ρ) y,D3 st p->k st tr ρ w=some y-> ∃r,y=w r/\Q r p tr
theorem AI {o:bQ} {l:List bQ} {st:tK} {p:St} {tr:List Tr} {k:tK->List Tr->jN R'} {ρ:Type} {w:R'->ρ} {y:ρ} {Q:R'->St->List Tr->Prop}
 (hl: ∀st p tr ρ (w:R'->ρ) y,D3 st p->k st tr ρ w=some y-> ∃r,y=w r/\WO F l p tr (Q r)) (h:D3 st p) {sr:iV} {pr:rA} (hw:wanted o.guard p.env=some true)
 (hx: ∃n,A7 F (run F n) p.env p.sto p.fz o.op=some (.loc pr)) (G:jC st.sto p.sto sr pr) (hg:WQ o.dst st tr k (.loc sr) ρ w=some y): ∃r,y=w r/\WO F (o::l) p tr (Q r):=by
 unfold WQ at hg;dsimp only at hg;obtain ⟨hok,hg⟩:=cV hg;rw [OV] at hg;have hR:=aJf h G o.dst;obtain ⟨r,hr,hwo⟩:=hl _ _ _ _ _ _ hR hg;refine ⟨r,hr,WO.call (.loc pr) hw hx (by rw [h.fz];exact aO4 G hok) ?_⟩
 rw [aO3 G h.sto];exact hwo
theorem RU (hcx:mK F cx) (hinl:RS F inl) {o:bQ} {l:List bQ} {st:tK} {p:St} {tr:List Tr} {k:tK->List Tr->jN R'} {ρ:Type} {w:R'->ρ} {y:ρ} {Q:R'->St->List Tr->Prop}
 (hl: ∀st p tr ρ (w:R'->ρ) y,D3 st p->k st tr ρ w=some y-> ∃r,y=w r/\WO F l p tr (Q r)) (h:D3 st p) (hw:wanted o.guard p.env=some true)
 (hg:NE cx inl st.env st.sto st.fz o.op (WQ o.dst st tr k) ρ w=some y): ∃r,y=w r/\WO F (o::l) p tr (Q r):=by
 have hS:=h.sto;have hE:=h.env;have shr: ∀(f:FuncId) (vals:List SV) (pas:List PV),RL st.sto vals pas->(∀n,A7 F (run F n) p.env p.sto p.fz o.op=gC (run F n) f pas p.sto p.fz)->
  inl f vals st.sto st.fz R' (fun v s' z'=>WQ o.dst st tr k (.shr v s' z')) ρ w=some y-> ∃r,y=w r/\WO F (o::l) p tr (Q r):=by
  intro f vals pas hv hop hi;obtain ⟨r,hr,hd⟩:=hinl f vals st.sto st.fz R' _ ρ w y pas p.sto (fun r v s z=>(Nat.ble p.sto.length s.length&&p.fz.all (has z))=true/\WO F l {p with env:=iX o.dst v p.env,sto:=s,fz:=z} (aAC::tr) (Q r)) hv hS hi
   (fun v s' z' pv ps' ρ' w' y' hR hS' hk=>by
    unfold WQ at hk;dsimp only at hk;rw [OV] at hk;obtain ⟨hk,hlen,hsame⟩:=F6 hk;obtain ⟨hz,hk⟩:=cV hk;have hfr:=UJ hsame;have hput:dW s' (OZ o.dst v (dgE (yM st.sto.length) st.env)) (iX o.dst pv p.env):=by
     cases o.dst with
     |none=>exact dW.fr hfr hE
     |some t=>exact ⟨pv,p.env,rfl,hR,dW.fr hfr hE⟩
    have hR':D3 {env:=OZ o.dst v (dgE (yM st.sto.length) st.env),sto:=s',fz:=z',kn:=st.kn} {p with env:=iX o.dst pv p.env,sto:=ps',fz:=z'}:=⟨hput,hS',rfl,h.kn⟩;obtain ⟨r,hr,hwo⟩:=hl _ _ _ _ _ _ hR' hk;refine ⟨r,hr,?_,hwo⟩;rw [h.fz,hz,Bool.and_true,hS.len,hS'.len];simpa using hlen)
  refine ⟨r,hr,WO.shrAny hw hop ?_⟩;rw [h.fz];rw [h.fz] at hd;exact hd
 have loc: ∀{k':iV->jN R'},oF st.env st.sto st.fz o.op k' ρ w=some y->HH o.op=false->(∀sr,k' sr=WQ o.dst st tr k (.loc sr))-> ∃r,y=w r/\WO F (o::l) p tr (Q r):=by
  intro k' hv hc hk;obtain ⟨sr,pr,h1,G,h2⟩:=aCB hE hS (pe:=p.env) hv;rw [hk] at h2;exact AI hl h hw ⟨0,by rw [OU hc,h.fz,h1];rfl⟩ G h2
 generalize hop:o.op=op at hg;cases op with
 |call m f args=>
  have hargs:=C2 hE args;simp only [NE] at hg;cases m with
  |pur=>
   dsimp only at hg;cases hx:exVL st.sto (oG st.sto eU) (kD st.env args) with
   |none=>rw [hx] at hg;cases hg
   |some vs=>
    rw [hx] at hg;obtain ⟨q,h1,h2⟩:=exVL_R hS (JN hS eU) hargs hx;obtain ⟨sr,pr,⟨n,h3⟩,G,h4⟩:=B7 (f:=f) (z:=st.fz) hS h1 h2 (tkExL hS (LD hS eU) hargs hx) (fun c hc=>hcx.con f c hc) hg
    exact AI hl h hw ⟨n,by rw [hop,h.fz];simp only [A7,h3];rfl⟩ G h4
  |own=>
   dsimp only at hg;cases hx:exVL st.sto (oG st.sto eU) (kD st.env args) with
   |none=>rw [hx] at hg;cases hg
   |some vs=>
    rw [hx] at hg;obtain ⟨q,h1,h2⟩:=exVL_R hS (JN hS eU) hargs hx;obtain ⟨sr,pr,⟨n,h3⟩,G,h4⟩:=B7 (f:=f) (z:=st.fz) hS h1 h2 (tkExL hS (LD hS eU) hargs hx) (fun c hc=>hcx.con f c hc) hg
    exact AI hl h hw ⟨n,by rw [hop,h.fz];simp only [A7,h3];rfl⟩ G h4
  |shr=>exact shr f _ _ hargs (fun n=>by rw [hop];rfl) hg
  |fp=>
   dsimp only at hg;cases hx:exVL st.sto (oG st.sto eU) (kD st.env args) with
   |none=>rw [hx] at hg;cases hg
   |some vs0=>
    rw [hx] at hg;dsimp only at hg;obtain ⟨hz,hg⟩:=cV hg;cases h1:renVL (rC (tkVL (EK st.sto eU) (kD st.env args))) (kD st.env args) with
    |none=>rw [h1] at hg;cases hg
    |some vs=>
     cases h2:MV st.sto (rC (tkVL (EK st.sto eU) (kD st.env args))) (rC (tkVL (EK st.sto eU) (kD st.env args))) with
     |none=>rw [h1,h2] at hg;cases hg
     |some s0=>
      rw [h1,h2] at hg;obtain ⟨sr,pr,⟨n,h3⟩,G,h4⟩:=W4 (f:=f) (z:=st.fz) hS hargs (by rw [tkExL hS (LD hS eU) hargs hx]) hz h1 h2 (fun c hc=>hcx.fpc f c hc) hg
      exact AI hl h hw ⟨n,by rw [hop,h.fz];simp only [A7,h3];rfl⟩ G h4
 |callv x args=>
  have hargs:=C2 hE args;simp only [NE] at hg;have hx:=eO hE x;generalize bY st.env x=v at hg hx;cases v with
  |clo f a b=>
   dsimp only at hg;obtain ⟨pa,pb,hx,ha,hb⟩:=hx;have hany: ∀{vs:List SV} {q:List PV},RL st.sto vs q->(anyPtr vs=true->q.any J2=true):=by
    intro vs
    induction vs with
    |nil=>intro q _ h;cases h
    |cons v vs ih=>
     intro q hq hp;obtain ⟨a,as,rfl,h1,h2⟩:=hq.cons_inv;simp only [anyPtr,Bool.or_eq_true] at hp;simp only [List.any_cons,Bool.or_eq_true];rcases hp with hp|hp
     · left
       cases v with
       |own _ _=>obtain ⟨_,_,rfl,_⟩:=h1;rfl
       |pre _ _ _ _=>obtain ⟨_,rfl,_⟩:=h1;rfl
       |part _ _ _ _ _=>obtain ⟨_,rfl,_⟩:=h1;rfl
       |pa _ _ _ _ _=>obtain ⟨rfl,_⟩:=h1;rfl
       |pb _ _ _=>obtain ⟨_,rfl,_⟩:=h1;rfl
       |bp _ _ _=>rw [show a=_ from h1];rfl
       |mp _=>rw [show a=_ from h1];rfl
       |_=>cases hp
     · right;exact ih h2 hp
   cases hp:anyPtr (kD st.env args++b) with
   |true=>
    rw [hp] at hg
    have:=hany (hargs.append hb) hp
    exact shr f _ _ ((ha.append hargs).append hb) (fun n=>by rw [hop];simp only [A7,hx,this,if_true]) hg
   |false=>
    rw [hp] at hg;simp only [cond_false] at hg;cases hxx:exVL st.sto (oG st.sto eU) (a++kD st.env args++b) with
    |none=>rw [hxx] at hg;cases hg
    |some vs=>
     rw [hxx] at hg;have hno: ∀{vs u:List SV} {q:List PV},RL st.sto vs q->anyPtr vs=false->exVL st.sto (oG st.sto eU) vs=some u->q.any J2=false:=by
      intro vs
      induction vs with
      |nil=>intro u q hq _ _;rw [show q=[] from hq];rfl
      |cons v vs ih=>
       intro u q hq hp hu;obtain ⟨a,as,rfl,h1,h2⟩:=hq.cons_inv;simp only [anyPtr,Bool.or_eq_false_iff] at hp;simp only [exVL] at hu;split at hu
       · rename_i y1 y2 e1 e2
         simp only [List.any_cons,ih h2 hp.2 e2,Bool.or_false];cases v with
         |agg _|tup _|rptr _ _=>obtain ⟨_,rfl,_⟩:=h1;rfl
         |clo _ _ _=>obtain ⟨_,_,rfl,_⟩:=h1;rfl
         |int _ _|bool _|str _|nilf|sl _ _|nil _ _|undef|nul=>rw [show a=_ from h1];rfl
         |junk=>cases e1
         |own _ _|pre _ _ _ _|part _ _ _ _ _|pa _ _ _ _ _|pb _ _ _|bp _ _ _|mp _=>cases hp.1
       · cases hu
     have hsplit: ∃u2,exVL st.sto (oG st.sto eU) (kD st.env args++b)=some u2:=by
      have: ∀(l:List SV) {m u:List SV},exVL st.sto (oG st.sto eU) (l++m)=some u-> ∃u2,exVL st.sto (oG st.sto eU) m=some u2:=by
       intro l
       induction l with
       |nil=>intro m u h;exact ⟨u,h⟩
       |cons x l ih=>
        intro m u h;simp only [List.cons_append,exVL] at h;split at h
        · rename_i e1 e2;exact ih e2
        · cases h
      rw [List.append_assoc] at hxx;exact this a hxx
     obtain ⟨u2,hu2⟩:=hsplit;have hno':=hno (hargs.append hb) hp hu2;have hall:=(ha.append hargs).append hb;obtain ⟨q,h1,h2⟩:=exVL_R hS (JN hS eU) hall hxx;obtain ⟨sr,pr,⟨n,h3⟩,G,h4⟩:=B7 (f:=f) (z:=st.fz) hS h1 h2 (tkExL hS (LD hS eU) hall hxx) (fun c hc=>hcx.con f c hc) hg
     exact AI hl h hw ⟨n,by rw [hop,h.fz];simp only [A7,hx,hno',Bool.false_eq_true,if_false,h3];rfl⟩ G h4
  |_=>cases hg
 |_=>exact loc (k':=fun r=>WQ o.dst st tr k (.loc r)) (by rw [hop];exact hg) (by rw [hop];rfl) (fun _=>rfl)
theorem AJ (hcx:mK F cx) (hinl:RS F inl): ∀(ops:List bQ) {st:tK} {p:St} {tr:List Tr} {k:tK->List Tr->jN R'} {ρ:Type} {w:R'->ρ} {y:ρ} {Q:R'->St->List Tr->Prop},
 aRA F k Q->D3 st p->rM cx inl ops st tr k ρ w=some y-> ∃r,y=w r/\WO F ops p tr (Q r)
 | [],st,p,tr,k,ρ,w,y,Q,hk,h,he=>by
  obtain ⟨r,hr,hq⟩:=hk st p tr ρ w y h he;exact ⟨r,hr,WO.nil hq⟩
 |o::l,st,p,tr,k,ρ,w,y,Q,hk,h,he=>by
  have hl: ∀st p tr ρ (w:R'->ρ) y,D3 st p->rM cx inl l st tr k ρ w=some y-> ∃r,y=w r/\WO F l p tr (Q r):=fun st p tr ρ w y h he=>AJ hcx hinl l hk h he
  have setR: ∀{st:tK} {c:Nat} {v:SV},D3 st p->R st.sto v (lk c p.env)->D3 {st with env:=setS c v st.env} p:=fun h hv=>⟨h.env.setS hv,h.sto,h.fz,h.kn⟩
  have run': ∀{st:tK},D3 st p->wanted o.guard p.env=some true->(match o.op with
   | .pick (.t c) a b=>match MR c st.env with
    | .bool x=>gV x (WQ o.dst {st with env:=setS c (.bool true) st.env} tr (rM cx inl l · · k) (.loc {v:=bY st.env a}))
     (WQ o.dst {st with env:=setS c (.bool false) st.env} tr (rM cx inl l · · k) (.loc {v:=bY st.env b}))
    |_=>aS
   |op=>NE cx inl st.env st.sto st.fz op (WQ o.dst st tr (rM cx inl l · · k))) ρ w=some y-> ∃r,y=w r/\WO F (o::l) p tr (Q r):=by
   intro st h hw he;have plain:NE cx inl st.env st.sto st.fz o.op (WQ o.dst st tr (rM cx inl l · · k)) ρ w=some y-> ∃r,y=w r/\WO F (o::l) p tr (Q r):=fun he=>RU hcx hinl hl h hw he
   generalize hop:o.op=op at he;cases op with
   |pick c a b=>
    cases c with
    |c v=>exact plain (by rw [hop];exact he)
    |t c=>
     dsimp only at he;generalize hv:MR c st.env=v at he;cases v with
     |bool x=>
      have hx:lk c p.env= .bool x:=by have:=h.env.lk c;rw [hv] at this;exact this
      rcases fC he with ⟨rfl,he⟩|⟨rfl,he⟩
      · have hR:=setR h (c:=c) (v:= .bool true) hx
        exact AI (o:=o) hl hR hw ⟨0,by rw [hop];simp only [A7,bM,fZ.ev,hx];rfl⟩ (jC.val hR.sto (eO h.env a)) he
      · have hR:=setR h (c:=c) (v:= .bool false) hx
        exact AI (o:=o) hl hR hw ⟨0,by rw [hop];simp only [A7,bM,fZ.ev,hx];rfl⟩ (jC.val hR.sto (eO h.env b)) he
     |_=>cases he
   |_=>exact plain (by rw [hop];exact he)
  have skip': ∀{st:tK},D3 st p->wanted o.guard p.env=some false->rM cx inl l {st with env:=OZ o.dst .nul st.env} (Tr.idle::tr) k ρ w=some y-> ∃r,y=w r/\WO F (o::l) p tr (Q r):=by
   intro st h hw he;have hR:D3 {st with env:=OZ o.dst .nul st.env} {p with env:=iX o.dst .nul p.env}:=by
    refine ⟨?_,h.sto,h.fz,h.kn⟩;cases o.dst with
    |none=>exact h.env
    |some t=>exact ⟨.nul,p.env,rfl,rfl,h.env⟩
   obtain ⟨r,hr,hwo⟩:=hl _ _ _ _ _ _ hR he;exact ⟨r,hr,WO.skip hw hwo⟩
  simp only [rM] at he;cases hgd:o.guard with
  |none=>
   rw [hgd] at he;exact run' h (by rw [hgd];rfl) he
  |some g=>
   obtain ⟨c,want⟩:=g;rw [hgd] at he;dsimp only at he;generalize hv:MR c st.env=v at he;cases v with
   |bool x=>
    have hx:lk c p.env= .bool x:=by have:=h.env.lk c;rw [hv] at this;exact this
    have hwx: ∀b,x=b->wanted o.guard p.env=some (b==want):=fun b hb=>by rw [hgd];simp only [wanted,hx,hb]
    cases want with
    |true=>
     simp only [cond_true] at he;rcases fC he with ⟨rfl,he⟩|⟨rfl,he⟩
     · exact run' (setR h (v:= .bool true) hx) (hwx true rfl) he
     · exact skip' (setR h (v:= .bool false) hx) (hwx false rfl) he
    |false=>
     simp only [cond_false] at he;rcases fC he with ⟨rfl,he⟩|⟨rfl,he⟩
     · exact skip' (setR h (v:= .bool true) hx) (hwx true rfl) he
     · exact run' (setR h (v:= .bool false) hx) (hwx false rfl) he
   |nul=>
    have hx:lk c p.env= .nul:=by have:=h.env.lk c;rw [hv] at this;exact this
    exact skip' h (by rw [hgd];simp only [wanted,hx]) he
   |_=>cases he
theorem LL {e:SE}: ∀{keep:List Nat} {k:SE->jN R'} {ρ:Type} {w:R'->ρ} {y:ρ},RE e keep k ρ w=some y->k (keep.map fun s=>(s,MR s e)) ρ w=some y
 | [],k,ρ,w,y,h=>h
 |s::r,k,ρ,w,y,h=>by
  simp only [RE] at h;rw [OV] at h
  have:=LL h
  exact this
theorem aA4 {s:List SB} {e:SE} {pe:wK} (h:dW s e pe): ∀(keep:List Nat),dW s (keep.map fun t=>(t,MR t e)) (keep.map fun t=>(t,lk t pe))
 | []=>rfl
 |t::r=>⟨_,_,rfl,h.lk t,aA4 h r⟩
end
mutual
theorem NP: ∀(v:SV) (q:List BM),wP v (HK v++q)=(v,q)
 | .junk,q| .undef,q| .nul,q| .nilf,q| .int _ _,q| .bool _,q| .str _,q| .sl _ _,q| .nil _ _,q| .own _ _,q| .pre _ _ _ _,q| .part _ _ _ _ _,q| .pa _ _ _ _ _,q| .pb _ _ _,q| .bp _ _ _,q| .mp _,q=>rfl
 | .agg cs,q=>by simp only [wP,HK,put_selfL]
 | .tup cs,q=>by simp only [wP,HK,put_selfL]
 | .rptr cs o,q=>by simp only [wP,HK,put_selfL]
 | .clo f a b,q=>by simp only [wP,HK,List.append_assoc,put_selfL]
theorem put_selfL: ∀(v:List SV) (q:List BM),putL v (atsL v++q)=(v,q)
 | [],q=>rfl
 |x::xs,q=>by simp only [putL,atsL,List.append_assoc,NP,put_selfL]
end
theorem NQ: ∀(v:List SB) (q:List BM),EM v (OY v++q)=(v,q)
 | [],q=>rfl
 |x::xs,q=>by
  have: ∀q,T9 x (aAA x++q)=(x,q):=by
   intro q;cases x<;>first|rfl|simp only [T9,aAA,put_selfL]
  simp only [EM,OY,List.append_assoc,this,NQ]
theorem NR: ∀(v:SE) (q:List BM),RC v (Y6 v++q)=(v,q)
 | [],q=>rfl
 |(t,x)::xs,q=>by simp only [RC,Y6,List.append_assoc,NP,NR]
theorem UK (st:tK):D0 st (BG st)=st:=by
 have hs:=NQ st.sto [];rw [List.append_nil] at hs;simp only [D0,BG,NR,hs]
theorem ZF {cx:Z4} {inl:Inl} (hcx:mK F cx) (hinl:RS F inl): ∀(c:kX) (R':Type) {st:tK} {p:St} {k:iD->tK->jN R'} {ρ:Type} {w:R'->ρ} {y:ρ} {Q:R'->iD->St->Prop},
 (∀e st p ρ (w:R'->ρ) y,D3 st p->k e st ρ w=some y-> ∃r,y=w r/\Q r e p)->D3 st p->F0s cx inl c R' st k ρ w=some y-> ∃r,y=w r/\WP F c p (Q r):=by
 intro c
 induction c with
 |skip=>
  intro R' st p k ρ w y Q hk h he;obtain ⟨r,hr,hq⟩:=hk _ _ _ _ _ _ h he;exact ⟨r,hr,WP.skip hq⟩
 |ret=>
  intro R' st p k ρ w y Q hk h he;obtain ⟨r,hr,hq⟩:=hk _ _ _ _ _ _ h he;exact ⟨r,hr,WP.ret hq⟩
 |exit id=>
  intro R' st p k ρ w y Q hk h he;obtain ⟨r,hr,hq⟩:=hk _ _ _ _ _ _ h he;exact ⟨r,hr,WP.exit hq⟩
 |region d ops keep=>
  intro R' st p k ρ w y Q hk h he;simp only [F0s] at he;have fin: ∀st p ρ (w:R'->ρ) y,D3 st p->RE st.env keep (fun e=>k .normal {st with env:=e}) ρ w=some y-> ∃r,y=w r/\Q r .normal (tH keep p):=by
   intro st p ρ w y h he
   have:=LL he
   have hR:D3 {st with env:=keep.map fun t=>(t,MR t st.env)} (tH keep p):=⟨aA4 h.env keep,h.sto,h.fz,h.kn⟩
   exact hk _ _ _ _ _ _ hR this
  cases d with
  |none=>
   obtain ⟨r,hr,hwo⟩:=AJ hcx hinl ops (Q:=fun r s _=>Q r .normal (tH keep s)) (fun st p tr ρ w y h he=>fin st p ρ w y h he) h he
   exact ⟨r,hr,WP.region hwo⟩
  |some bf=>
   obtain ⟨r,hr,hwo⟩:=AJ hcx hinl ops (Q:=fun r s t=>uO 0 (t.reverse.zip bf)=true/\Q r .normal (tH keep s)) (fun st p tr ρ w y h he=>by
    dsimp only at he;cases ho:uO 0 (tr.reverse.zip bf) with
    |false=>rw [ho] at he;cases he
    |true=>
     rw [ho] at he;obtain ⟨r,hr,hq⟩:=fin st p ρ w y h he;exact ⟨r,hr,ho,hq⟩) h he
   exact ⟨r,hr,WP.regionD hwo⟩
 |seq a b iha ihb=>
  intro R' st p k ρ w y Q hk h he;simp only [F0s] at he;obtain ⟨r,hr,hwp⟩:=iha R' (Q:=fun r=>JJ (fun s=>WP F b s (Q r)) (Q r)) (fun e st p ρ w y h he=>by
   cases e with
   |normal=>exact ihb R' hk h he
   |exit i=>exact hk _ _ _ _ _ _ h he
   |ret=>exact hk _ _ _ _ _ _ h he) h he
  exact ⟨r,hr,WP.seq hwp⟩
 |cond c a b iha ihb=>
  intro R' st p k ρ w y Q hk h he;simp only [F0s] at he;have hx:=eO h.env c;generalize bY st.env c=v at he hx;cases v with
  |bool x=>
   rcases fC he with ⟨rfl,he⟩|⟨rfl,he⟩
   · obtain ⟨r,hr,hwp⟩:=iha R' hk h he
     exact ⟨r,hr,WP.condT hx hwp⟩
   · obtain ⟨r,hr,hwp⟩:=ihb R' hk h he
     exact ⟨r,hr,WP.condF hx hwp⟩
  |_=>cases he
 |block id b ih=>
  intro R' st p k ρ w y Q hk h he;simp only [F0s] at he;obtain ⟨r,hr,hwp⟩:=ih R' (Q:=fun r=>inBlock id (Q r)) (fun e st p ρ w y h he=>by
   cases e with
   |normal=>exact hk _ _ _ _ _ _ h he
   |ret=>exact hk _ _ _ _ _ _ h he
   |exit j=>
    dsimp only at he;cases hj:Nat.beq j id with
    |true=>
     rw [hj] at he;obtain ⟨r,hr,hq⟩:=hk _ _ _ _ _ _ h he;have hji:=Nat.eq_of_beq_eq_true hj;exact ⟨r,hr,by simpa [inBlock,hji] using hq⟩
    |false=>
     rw [hj] at he;obtain ⟨r,hr,hq⟩:=hk _ _ _ _ _ _ h he
     have:j≠id:=by intro e;subst e;simp at hj
     exact ⟨r,hr,by simpa [inBlock,this] using hq⟩) h he
  exact ⟨r,hr,WP.block hwp⟩
 |loop live b ih=>
  intro R' st p k ρ w y Q hk h he;simp only [F0s] at he;cases hn:K2 cx.rk live st with
  |none=>rw [hn] at he;cases he
  |some st1=>
   rw [hn] at he;dsimp only at he;have ksK_eq: ∀{β:Type 1} (l:List AK) (c:List AK->β),ksK l c=c l:=by
    intro β l;have rK_eq: ∀{β:Type 1} (l:List PT) (c:List PT->β),rK l c=c l:=by
     intro β l
     induction l with
     |nil=>intro c;rfl
     |cons p r ih=>intro c;cases p<;>simp only [rK,ptK,ih]
    induction l with
    |nil=>intro c;rfl
    |cons a r ih=>intro c;cases a<;>simp only [ksK,rK_eq,ih]
   rw [ksK_eq] at he;generalize aI7 (BG st1)=ks at he;cases hp:uB ks (BG st1) with
   |none=>rw [hp] at he;cases he
   |some y0=>
    rw [hp] at he;dsimp only at he;obtain ⟨p1,hp1,hR1⟩:=WZ h hn;have hlike: ∀(st3:tK) (y':lB ks),K4 st1 st3=true->uB ks (BG st3)=some y'->D0 st1 (oH ks y')=st3:=fun st3 y' h1 h2=>by
     rw [vN h2,ZE h1]
    obtain ⟨n,hit⟩:=aAu he;have h0:D3 (D0 st1 (oH ks y0)) p1:=by rw [vN hp,UK];exact hR1
    clear he hp hn h hR1
    induction n generalizing y0 p p1 with
    |zero=>cases hit
    |succ n ihn=>
     have body: ∀zr,F0s cx inl b (cE (lB ks) ρ) (D0 st1 (oH ks y0)) (fun e st2=>match e with
      | .normal=>match K2 cx.rk live st2 with
       |some st3=>bif K4 st1 st3 then (match uB ks (BG st3) with
        |some y'=>NC (.next y')
        |none=>aS) else aS
       |none=>aS
      |e=>fun ρ' w'=>k e st2 ρ' fun r=>w' (.done (w r))) (cE (lB ks) ρ) (fun z=>z)=some zr->
      WP F b p1 (fun e s=>match zr with
       | .next y'=>e= .normal/\ ∃p3,I7 live s=some p3/\D3 (D0 st1 (oH ks y')) p3
       | .done x=>e≠ .normal/\ ∃r,x=w r/\Q r e s):=by
      intro zr hbody;obtain ⟨zr',hzr,hwp⟩:=ih (cE (lB ks) ρ) (Q:=fun zr e s=>match zr with
       | .next y'=>e= .normal/\ ∃p3,I7 live s=some p3/\D3 (D0 st1 (oH ks y')) p3
       | .done x=>e≠ .normal/\ ∃r,x=w r/\Q r e s) (fun e st2 p2 ρ' w' y2 h2 he2=>by
       cases e with
       |normal=>
        dsimp only at he2;cases hn3:K2 cx.rk live st2 with
        |none=>rw [hn3] at he2;cases he2
        |some st3=>
         rw [hn3] at he2;obtain ⟨hlk,he2⟩:=cV he2;cases hp3:uB ks (BG st3) with
         |none=>rw [hp3] at he2;cases he2
         |some y3=>
          rw [hp3] at he2;injection he2 with he2;obtain ⟨p3,hp3',hR3⟩:=WZ h2 hn3;exact ⟨.next y3,he2.symm,rfl,p3,hp3',by rw [hlike st3 y3 hlk hp3];exact hR3⟩
       |exit i=>
        obtain ⟨r,hr,hq⟩:=hk _ _ _ _ _ _ h2 he2;exact ⟨.done (w r),hr,(by intro e;cases e),r,rfl,hq⟩
       |ret=>
        obtain ⟨r,hr,hq⟩:=hk _ _ _ _ _ _ h2 he2;exact ⟨.done (w r),hr,(by intro e;cases e),r,rfl,hq⟩) h0 hbody
      subst hzr;exact hwp
     simp only [uJ] at hit;split at hit
     · rename_i y' hbody
       obtain ⟨m,e,s,hrun,rfl,p3,hp3,hR3⟩:=body _ hbody;obtain ⟨r,hr,hwp⟩:=ihn y' p3 hp3 hit hR3;exact ⟨r,hr,WP.again hp1 ⟨m,.normal,s,hrun,hwp⟩⟩
     · rename_i x hbody
       injection hit with hit;obtain ⟨m,e,s,hrun,hne,r,hr,hq⟩:=body _ hbody;refine ⟨r,by rw [<- hit];exact hr,WP.again hp1 ⟨m,e,s,hrun,?_⟩⟩
       cases e with
       |normal=>exact absurd rfl hne
       |exit i=>exact hq
       |ret=>exact hq
     · cases hit
end
end Go.Vm
/- Contracts from the typed machine. -/
namespace Go.Vm
section
variable {F : oY} {cx : Z4} {inl : Inl}
theorem RW {s:List SB}: ∀{l:List SV} {q:List PV} (i:Nat),RL s l q->dW s (UC i l) (yN i q)
 | [],q,i,h=>by rw [show q=[] from h];rfl
 |x::xs,q,i,h=>by
  obtain ⟨a,as,rfl,h1,h2⟩:=h.cons_inv;exact ⟨a,yN (i+1) as,rfl,h1,RW (i+1) h2⟩
theorem aA5 {st:tK} {p:St} (h:D3 st p) {r:RV} {v:SV} (hr:UB st r=some v): ∃q,J4 p r=some q/\R st.sto v q:=by
 cases r with
 |tmp t=>injection hr with hr;subst hr;exact ⟨_,rfl,h.env.lk t⟩
 |cell t agg=>
  simp only [UB] at hr;have hlk:=h.env.lk t;split at hr
  · rename_i u n off hv
    rw [hv] at hlk;rw [cR] at hr;split at hr
    · rename_i cs hst
      obtain ⟨q,h1,h2⟩:=h.sto.box hst;obtain ⟨x,h3,h4⟩:=wY h2 hr;refine ⟨x,?_,h4⟩;simp only [J4,show lk t p.env=_ from hlk,rB,h1,Nat.beq_refl,if_true,h3];rfl
    · cases hr
  · rename_i cs off hv
    rw [hv] at hlk;obtain ⟨q,h1,h2⟩:=hlk;obtain ⟨x,h3,h4⟩:=wY h2 hr;refine ⟨x,?_,h4⟩;simp only [J4,h1,rB,h3];rfl
  · cases hr
theorem NS {st:tK} {p:St} (h:D3 st p): ∀{l:List RV} {vs:List SV},C1 st l=some vs-> ∃q,pZ p l=some q/\RL st.sto vs q
 | [],vs,hr=>by injection hr with hr;subst hr;exact ⟨[],rfl,rfl⟩
 |r::l,vs,hr=>by
  simp only [C1] at hr;split at hr
  · rename_i v vs' h1 h2
    injection hr with hr;subst hr;obtain ⟨q,h3,h4⟩:=aA5 h h1;obtain ⟨qs,h5,h6⟩:=NS h h2;exact ⟨q::qs,by simp only [pZ,h3,h5],RL.cons h4 h6⟩
  · cases hr
theorem RX {s:List SB} {vs:List SV} {q:List PV} (h:RL s vs q):R s (HL vs) (tD q):=by
 match vs,q,h with
 | [],q,h=>rw [show q=[] from h];exact ⟨[],rfl,rfl⟩
 | [v],q,h=>
  obtain ⟨a,as,rfl,h1,h2⟩:=h.cons_inv;rw [show as=[] from h2];exact h1
 |v::u::r,q,h=>
  have hall:=h;obtain ⟨a,as,rfl,h1,h2⟩:=h.cons_inv;obtain ⟨b,bs,rfl,h3,h4⟩:=h2.cons_inv;exact ⟨_,rfl,hall⟩
theorem B8 (hcx:mK F cx) (hinl:RS F inl) {f:FuncId} {x:aN} (hf:F f=some (.code x)) {R':Type} {args:List SV} {s:List SB} {z:List Nat} {k:SV->List SB->List Nat->jN R'} {ρ:Type} {w:R'->ρ} {y:ρ} {pa:List PV} {ps:cX}
 {Q:R'->PV->cX->List Nat->Prop} (ha:RL s args pa) (hS:cY s ps) (he:RF cx inl x R' args s z k ρ w=some y)
 (hk: ∀v s' z' p ps' ρ' (w':R'->ρ') y',R s' v p->cY s' ps'->k v s' z' ρ' w'=some y'-> ∃r,y'=w' r/\Q r p ps' z'): ∃r,y=w r/\J6 F f pa ps z (fun p ps' z'=>Q r p ps' z'):=by
 unfold RF at he;obtain ⟨hn,he⟩:=cV he;have fin: ∀st p ρ' (w':R'->ρ') y',D3 st p->(match C1 st x.res with
  |some vs=>k (HL vs) st.sto st.fz
  |none=>aS) ρ' w'=some y'-> ∃r,y'=w' r/\ ∃vs,pZ p x.res=some vs/\Q r (tD vs) p.sto p.fz:=by
  intro st p ρ' w' y' h he;cases hr:C1 st x.res with
  |none=>rw [hr] at he;cases he
  |some vs=>
   rw [hr] at he;obtain ⟨q,h1,h2⟩:=NS h hr;obtain ⟨r,h3,h4⟩:=hk _ _ _ _ _ _ _ _ (RX h2) h.sto he;exact ⟨r,h3,q,h1,by rw [h.fz];exact h4⟩
 obtain ⟨r,hr,hwp⟩:=ZF hcx hinl x.code R' (Q:=fun r=>OG x fun p ps' z'=>Q r p ps' z') (p:={env:=yN 0 pa,sto:=ps,fz:=z,kn:=ps.length}) (fun e st p ρ' w' y' h he=>by
  cases e with
  |normal=>exact fin st p ρ' w' y' h he
  |ret=>exact fin st p ρ' w' y' h he
  |exit i=>cases he) ⟨RW 0 ha,hS,rfl,hS.len⟩ he
 exact ⟨r,hr,J6.of hf (by rw [ha.length];exact hn) hwp⟩
theorem O7 (hcx:mK F cx): ∀n,RS F (aAE cx n)
 |0=>fun f args s z R' k ρ w y pa ps Q _ _ h _=>by cases h
 |n+1=>fun f args s z R' k ρ w y pa ps Q ha hS h hk=>by
  simp only [aAE] at h;cases hx:cx.code f with
  |none=>rw [hx] at h;cases h
  |some x=>
   rw [hx] at h;exact B8 hcx (O7 hcx n) (hcx.code f x hx) ha hS h hk
def aCE:Kd->Bool->Bool
 | .own,b=>b
 |_,b=>!b
def aA6 (kd:Kd) {β:Type} (res:aK β) (b:β) (p:PV) (ps:cX) (z:List Nat):Prop:=
 match kd with
 | .pure=>p.noref=true/\vL (res.enc b)=some p
 | .frz=>p.noref=false/\ ∃q,CV ps p=some q/\vL (res.enc b)=some q
 | .own=> ∀nx,∃p0 p' q seen,DR ps z nx [] p=some (p',q,seen)/\vL (res.enc b)=some p0/\LH nx p0=some (p',q)
mutual
theorem RY {s:List SB}: ∀{v:SV} {p:PV},R s v p->EL v=true->vL v=some p
 | .int _ _,p,h,_| .bool _,p,h,_| .str _,p,h,_=>by rw [show p=_ from h];rfl
 | .agg cs,p,h,hn=>by obtain ⟨q,rfl,h⟩:=h;simp only [vL,pure_pvL h hn]
 | .tup cs,p,h,hn=>by obtain ⟨q,rfl,h⟩:=h;simp only [vL,pure_pvL h hn]
 | .junk,_,_,h| .undef,_,_,h| .nul,_,_,h| .nilf,_,_,h| .sl _ _,_,_,h| .nil _ _,_,_,h| .own _ _,_,_,h| .pre _ _ _ _,_,_,h| .part _ _ _ _ _,_,_,h| .pa _ _ _ _ _,_,_,h| .pb _ _ _,_,_,h| .bp _ _ _,_,_,h| .rptr _ _,_,_,h| .clo _ _ _,_,_,h| .mp _,_,_,h=>by cases h
theorem pure_pvL {s:List SB}: ∀{v:List SV} {p:List PV},RL s v p->norefSL v=true->pvL v=some p
 | [],p,h,_=>by rw [show p=_ from h];rfl
 |x::xs,p,h,hn=>by
  obtain ⟨a,as,rfl,h1,h2⟩:=h.cons_inv;simp only [norefSL,Bool.and_eq_true] at hn;exact eL.2 ⟨_,_,rfl,RY h1 hn.1,pure_pvL h2 hn.2⟩
end
theorem UL {kd:Kd} {β:Type} {res:aK β} {v:SV} {s:List SB} {z:List Nat} {p:PV} {ps:cX} {ρ:Type} {w:β->ρ} {y:ρ} (hv:R s v p) (hS:cY s ps) (h:aAF kd res v s z ρ w=some y):
 ∃b,y=w b/\aA6 kd res b p ps z:=by
 unfold aAF at h;cases kd with
 |pure=>
  dsimp only at h;obtain ⟨h1,h2⟩:=cV h;obtain ⟨b,h3,h4⟩:=bP h2;injection h4 with h4;exact ⟨b,h4.symm,RQ hv h1,res.law h3 (RY hv h1)⟩
 |frz=>
  dsimp only at h;obtain ⟨h1,h2⟩:=yX h;obtain ⟨u,h3,h4⟩:=bP h2;obtain ⟨b,h5,h6⟩:=bP h4;injection h6 with h6;obtain ⟨q,h7,h8⟩:=aIP hS hv h3;exact ⟨b,h6.symm,NL hv h1 h3,q,h7,res.law h5 h8⟩
 |own=>
  dsimp only at h;obtain ⟨u,h3,h4⟩:=bP h;obtain ⟨b,h5,h6⟩:=bP h4;injection h6 with h6;refine ⟨b,h6.symm,fun nx=>?_⟩
  obtain ⟨p0,p',q,h7,h8,h9⟩:=aA0 hS (v':=u.1) (seen':=u.2) nx hv h3;exact ⟨p0,p',q,u.2,h9,res.law h5 h7,h8⟩
theorem cY.nil:cY [] []:=⟨rfl,fun t b h=>by simp at h⟩
theorem aJ.of {f:FuncId} {x:aN} {α β:Type} {args:aB α} {res:aK β} {kd:Kd} {fn:α->Option β} {ow:Bool} (hf:F f=some (.code x)) (ho:aCE kd ow=true) (hcx:mK F cx)
 (h: ∀a,aIM cx x args res kd a=fn a):aJ F f ⟨args,res,fn,kd,ow⟩:=by
 intro a b as pa sto fz hb hpa hex;have hb:fn a=some b:=hb;rw [<- h a] at hb;obtain ⟨r,hr,n,v,s,z,hrun,hl⟩:=B8 hcx (O7 hcx 8) hf (Q:=fun r p ps z=>aA6 kd res r p ps z) (pvL_R hpa) cY.nil hb (fun v s' z' p ps' ρ' w' y' hv hS hk=>UL hv hS hk)
 have hr':b=r:=hr;subst hr';cases kd with
 |pure=>
  obtain ⟨h1,h2⟩:=hl;have how:ow=false:=by simpa [aCE] using ho
  subst how;refine ⟨n,{v:=v,rd:=toksL (dO sto eU) as},?_,v,h2,rfl⟩;simp only [callPure,hex,hf,hrun,Bool.false_eq_true,if_false,h1,if_true]
 |frz=>
  obtain ⟨h1,q,h2,h3⟩:=hl;have how:ow=false:=by simpa [aCE] using ho
  subst how;refine ⟨n,{v:=q,rd:=toksL (dO sto eU) as,fr:=toksL (dO sto eU) as},?_,q,h3,rfl⟩;simp only [callPure,hex,hf,hrun,Bool.false_eq_true,if_false,h1,h2]
 |own=>
  have how:ow=true:=ho;subst how;obtain ⟨p0,p',q,seen,h1,h2,h3⟩:=hl sto.length;refine ⟨n,{v:=p',news:=q,rd:=toksL (dO sto eU) as},?_,p0,p',q,h2,h3,rfl⟩;simp only [callPure,hex,hf,hrun,if_true,h1]
theorem RZ: ∀(s:List SB) (q:List BM),(EM s q).1.length=s.length
 | [],q=>rfl
 |b::r,q=>by simp only [EM,List.length_cons,RZ r]
mutual
theorem R.take {s:List SB} {k:Nat}: ∀{v:SV} {p:PV},R s v p->(∀t∈WK wM v,t<k)->R (s.take k) v p
 | .junk,_,_,_=>trivial
 | .undef,_,h,_| .nul,_,h,_| .nilf,_,h,_| .int _ _,_,h,_| .bool _,_,h,_| .str _,_,h,_| .sl _ _,_,h,_| .nil _ _,_,h,_| .bp _ _ _,_,h,_| .mp _,_,h,_=>h
 | .agg cs,_,h,ht=>by obtain ⟨q,rfl,h⟩:=h;exact ⟨q,rfl,RL.takeS h ht⟩
 | .tup cs,_,h,ht=>by obtain ⟨q,rfl,h⟩:=h;exact ⟨q,rfl,RL.takeS h ht⟩
 | .rptr cs o,_,h,ht=>by obtain ⟨q,rfl,h⟩:=h;exact ⟨q,rfl,RL.takeS h ht⟩
 | .clo f a b,_,h,ht=>by
  obtain ⟨pa,pb,rfl,h1,h2⟩:=h;exact ⟨pa,pb,rfl,RL.takeS h1 (fun t h=>ht t (List.mem_append_left _ h)),RL.takeS h2 (fun t h=>ht t (List.mem_append_right _ h))⟩
 | .own t ex,_,h,ht=>by
  obtain ⟨e,n,rfl,hat⟩:=h;have hk:=ht t (List.mem_singleton.2 rfl);refine ⟨e,n,rfl,?_⟩;rcases hat with ⟨r,l,h1,h2,h3⟩|h1
  · exact .inl ⟨r,l,by rw [List.getElem?_take_of_lt hk];exact h1,h2,h3⟩
  · exact .inr (by rw [List.getElem?_take_of_lt hk];exact h1)
 | .pre t a b c,_,h,ht=>by
  obtain ⟨e,rfl,hat⟩:=h;have hk:=ht t (List.mem_singleton.2 rfl);refine ⟨e,rfl,?_⟩;rcases hat with ⟨r,l,h1,h2⟩|h1
  · exact .inl ⟨r,l,by rw [List.getElem?_take_of_lt hk];exact h1,h2⟩
  · exact .inr (by rw [List.getElem?_take_of_lt hk];exact h1)
 | .part t o a b c,_,h,ht=>by
  obtain ⟨e,rfl,hat⟩:=h;have hk:=ht t (List.mem_singleton.2 rfl);refine ⟨e,rfl,?_⟩;rcases hat with ⟨r,l,h1,h2⟩|h1
  · exact .inl ⟨r,l,by rw [List.getElem?_take_of_lt hk];exact h1,h2⟩
  · exact .inr (by rw [List.getElem?_take_of_lt hk];exact h1)
 | .pa t r i a o,_,h,ht=>by
  obtain ⟨rfl,hat⟩:=h;have hk:=ht t (List.mem_cons_self ..);refine ⟨rfl,?_⟩;rcases hat with ⟨l,h1,h2⟩|h1
  · exact .inl ⟨l,by rw [List.getElem?_take_of_lt hk];exact h1,h2⟩
  · exact .inr (by rw [List.getElem?_take_of_lt hk];exact h1)
 | .pb t i o,_,h,ht=>by
  obtain ⟨e,rfl,hat⟩:=h;have hk:=ht t (List.mem_cons_self ..);refine ⟨e,rfl,?_⟩;rcases hat with ⟨r,l,h1,h2⟩|h1
  · exact .inl ⟨r,l,by rw [List.getElem?_take_of_lt hk];exact h1,h2⟩
  · exact .inr (by rw [List.getElem?_take_of_lt hk];exact h1)
theorem RL.takeS {s:List SB} {k:Nat}: ∀{v:List SV} {p:List PV},RL s v p->(∀t∈tkVL wM v,t<k)->RL (s.take k) v p
 | [],_,h,_=>h
 |x::xs,_,h,ht=>by
  obtain ⟨a,as,rfl,h1,h2⟩:=h.cons_inv;exact RL.cons (R.take h1 (fun t h=>ht t (List.mem_append_left _ h))) (RL.takeS h2 (fun t h=>ht t (List.mem_append_right _ h)))
end
theorem LM {R' ρ:Type} {w:R'->ρ} {y:ρ}: ∀{s s':List SB} {k:jN R'},IR s s' k ρ w=some y->k ρ w=some y/\s'.length=s.length/\ ∀(t:Nat) (x z:SB),s[t]? =some x->s'[t]? =some z->aA2 x z
 | [],[],k,h=>⟨h,rfl,fun t x z h=>by simp at h⟩
 | [],_::_,k,h=>by cases h
 |_::_,[],k,h=>by cases h
 |x::xs,y'::ys,k,h=>by
  have step: ∀(_:IR xs ys k ρ w=some y) (_:aA2 x y'),k ρ w=some y/\(y'::ys).length=(x::xs).length/\ ∀(t:Nat) (a b:SB),(x::xs)[t]? =some a->(y'::ys)[t]? =some b->aA2 a b:=by
   intro h hx;obtain ⟨h1,h2,h3⟩:=LM h;refine ⟨h1,by simpa using h2,fun t a b ha hb=>?_⟩
   cases t with
   |zero=>simp at ha hb;subst ha hb;exact hx
   |succ t=>exact h3 t a b (by simpa using ha) (by simpa using hb)
  cases x with
  |arr r l=>
   cases y' with
   |arr q m=>
    obtain ⟨hr,h2⟩:=cV (a:=gV (m.length==l.length) (IR xs ys k) aS) h;obtain ⟨hl,h3⟩:=iJ h2;exact step h3 ⟨yW hr,by simpa using hl⟩
   |_=>cases h
  |dead=>cases y' with
   |dead=>exact step h trivial
   |_=>cases h
  |box cs=>cases y' with
   |box _=>exact step h trivial
   |_=>cases h
  |set l=>cases y' with
   |set _=>exact step h trivial
   |_=>cases h
theorem LN: ∀{s:List SB},K5 s=true-> ∀(t:Nat) (b:SB),s[t]? =some b->C0 b=true
 | [],_,t,b,h=>by simp at h
 |x::xs,hs,0,b,h=>by simp only [K5,Bool.and_eq_true] at hs;simp at h;subst h;exact hs.1
 |x::xs,hs,t+1,b,h=>by simp only [K5,Bool.and_eq_true] at hs;exact LN hs.2 t b (by simpa using h)
theorem kW.of {f:FuncId} {x:aN} {wd:Bool} {ka ko:List AK} {ta:List SV} {tb to:List SB} {tv:SV} {fn:lB ka->Option (lB ko)} (hf:F f=some (.code x)) (hcx:mK F cx)
 (h: ∀a,aRy wd cx x ka ta tb ko tv to a=fn a):kW F f ⟨ka,ta,tb,ko,tv,to,fn⟩:=by
 intro a b pa ps hb ha hS;rw [show (⟨ka,ta,tb,ko,tv,to,fn⟩:dV).fn a=fn a from rfl,<- h a] at hb;have hlen:(dV.sa ⟨ka,ta,tb,ko,tv,to,fn⟩ a).length=tb.length:=RZ _ _;obtain ⟨r,hr,n,v,s,z,hrun,hz,hq⟩:=B8 hcx (O7 hcx 8) hf (Q:=fun (r:lB ko) p ps' z'=>z'=[]/\iH tb.length p ps'=true/\
  R (dV.sb ⟨ka,ta,tb,ko,tv,to,fn⟩ r) (dV.vb ⟨ka,ta,tb,ko,tv,to,fn⟩ r) p/\cY (dV.sb ⟨ka,ta,tb,ko,tv,to,fn⟩ r) (ps'.take tb.length)/\
  (dV.sb ⟨ka,ta,tb,ko,tv,to,fn⟩ r).length=(dV.sa ⟨ka,ta,tb,ko,tv,to,fn⟩ a).length/\
  ∀(t:Nat) (x y:SB),(dV.sa ⟨ka,ta,tb,ko,tv,to,fn⟩ a)[t]? =some x->(dV.sb ⟨ka,ta,tb,ko,tv,to,fn⟩ r)[t]? =some y->aA2 x y) ha hS hb (fun v s' z' p ps' ρ' w' y' hv hS' hk=>by
  cases z' with
  |cons _ _=>cases hk
  |nil=>
   dsimp only at hk;obtain ⟨hc,hk⟩:=cV hk;simp only [Bool.and_eq_true] at hc;obtain ⟨⟨⟨⟨c1,c2⟩,c3⟩,c4⟩,c5⟩:=hc;obtain ⟨hk,f1,f2⟩:=LM hk;obtain ⟨r,hr,hk⟩:=bP hk;injection hk with hk;have hu:R s' (bif wd then ND s' v else v) p:=by
    cases wd with
    |true=>exact WX hv
    |false=>exact hv
   generalize (bif wd then ND s' v else v)=u at c1 c3 c4 hr hu
   have hats:=vN hr;have hvb:dV.vb ⟨ka,ta,tb,ko,tv,to,fn⟩ r=u:=by
    show (wP tv (oH ko r)).1=u;rw [hats,JO _ c1]
   have hsb:dV.sb ⟨ka,ta,tb,ko,tv,to,fn⟩ r=s'.take tb.length:=by
    show (EM to (wP tv (oH ko r)).2).1=_;rw [hats,JO _ c1]
    have:=F3 [] c2
    rw [List.append_nil] at this;rw [this]
   have hle:tb.length<=s'.length:=by
    have:=f1
    rw [List.length_take] at this;have h2:(dV.sa ⟨ka,ta,tb,ko,tv,to,fn⟩ a).length=tb.length:=hlen;have h3:min tb.length s'.length=tb.length:=by rw [this];exact h2
    omega
   unfold aIL at c3;rw [List.all_eq_true] at c3;have hkv: ∀t∈WK wM u,t<tb.length:=fun t ht=>by simpa using c3 t (List.mem_append_left _ ht)
   have hkb: ∀b∈s'.take tb.length,∀t∈KX b,t<tb.length:=fun b hb t ht=>by simpa using c3 t (List.mem_append_right _ (List.mem_flatMap.2 ⟨b,hb,ht⟩))
   have hsto:cY (s'.take tb.length) (ps'.take tb.length):=⟨by simp [hS'.len],fun t x hx=>by
    have hlt:t<tb.length:=by
     have:=(List.getElem?_eq_some_iff.1 hx).1
     rw [List.length_take] at this;omega
    have hx':=hx;rw [List.getElem?_take_of_lt hlt] at hx';obtain ⟨q,q1,q2⟩:=hS'.at_ t x hx';refine ⟨q,by rw [List.getElem?_take_of_lt hlt];exact q1,?_⟩
    cases x with
    |box cs=>
     obtain ⟨pc,rfl,hpc⟩:=q2;exact ⟨pc,rfl,RL.takeS hpc (hkb _ (List.mem_of_getElem? hx))⟩
    |_=>exact q2⟩
   refine ⟨r,hk.symm,rfl,?_,by rw [hvb,hsb];exact R.take hu hkv,by rw [hsb];exact hsto,by rw [hsb];exact f1,by rw [hsb];exact f2⟩
   unfold iH;rw [List.all_eq_true];intro t ht;rw [List.mem_append] at ht;rcases ht with ht|ht
   · rw [<- aAV (bx:=wM) (fun _=>rfl) hu c4] at ht
     simpa using hkv t ht
   · rw [List.mem_flatMap] at ht
     obtain ⟨q,hq,ht⟩:=ht;obtain ⟨j,hj,he⟩:=List.getElem_of_mem hq;have hjl:j<(s'.take tb.length).length:=by rw [<- hsto.len];exact hj
     obtain ⟨x,hx⟩: ∃x,(s'.take tb.length)[j]? =some x:=⟨_,List.getElem?_eq_getElem hjl⟩;obtain ⟨q',q1,q2⟩:=hsto.at_ j x hx;rw [List.getElem?_eq_getElem hj,he] at q1;injection q1 with q1;subst q1;rw [<- O3 q2 (LN c5 j x hx)] at ht;simpa using hkb x (List.mem_of_getElem? hx) t ht)
 have hr':b=r:=hr;subst hr';subst hz;refine ⟨n,v,s,hrun,?_⟩;rw [hlen];obtain ⟨h1,h2,h3,h4,h5⟩:=hq;exact ⟨h1,h2,h3,by rw [h4,hlen],h5⟩
theorem UM {f:FuncId} {r:List PT} (hf:F f=some (.prim false (fO r.length))) (l:List (RT r)) (hl:l.length<=1048576) {as:List PV} {sto:cX} {fz:List Nat} (hex:exL sto (BN sto eU) as=some [.sl r.length false (l.map (RT.pv r))]):
 ∃n x,callPure F (run F n) false f as sto fz=some x/\aIQ .own sto.length (toksL (dO sto eU) as) (.sl r l) x:=by
 refine ⟨0,{v:= .own sto.length r.length 0 l.length l.length false,news:=[.arr r.length (l.map (RT.pv r))],rd:=toksL (dO sto eU) as},?_,.sl r.length false (l.map (RT.pv r)),.own sto.length r.length 0 l.length l.length false,[.arr r.length (l.map (RT.pv r))],rfl,by simp only [LH,List.length_map],rfl⟩
 simp only [callPure,hex,hf];cases l with
 |nil=>rfl
 |cons a l=>
  have h2:Nat.ble ((l.map (RT.pv r)).length+1) wL=true:=by simp [wL] at hl ⊢;omega
  simp only [List.map_cons,fO,Nat.beq_refl,h2,Bool.and_self,if_true,DR];simp [has]
theorem aJ.clone {f:FuncId} {n:Nat} {r:List PT} (hf:F f=some (.prim false (fO n))) (hn:n=r.length):aJ F f (bJ.clone r):=by
 intro (a:List (RT r)) (b:List (RT r)) as pa sto fz hb hpa hex;subst hn;have hb:cB a=some b:=hb;obtain ⟨rfl,hl⟩:=EQ hb;have hpa':pa=[.sl r.length false (b.map (RT.pv r))]:=by
  have:some [PV.sl r.length false (b.map (RT.pv r))]=some pa:=hpa
  exact (Option.some.inj this).symm
 subst hpa';exact UM hf b hl hex
theorem aJ.add64 {f:FuncId} (hf:F f=some (.prim false EC)):aJ F f bJ.add64:=by
 intro a b as pa sto fz hb hpa hex;obtain ⟨x,y,c⟩:=a;have hb':rN x y c=some b:=hb;unfold rN at hb';cases hc:(decide (0<=x)&&decide (0<=y)&&decide (0<=c)&&decide (c<=1)) with
 |false=>rw [hc] at hb';cases hb'
 |true=>
  rw [hc] at hb';injection hb' with hb';subst hb';simp only [Bool.and_eq_true,decide_eq_true_eq] at hc;obtain ⟨⟨⟨h1,h2⟩,h3⟩,h4⟩:=hc;obtain ⟨x,rfl⟩:=Int.eq_ofNat_of_zero_le h1;obtain ⟨y,rfl⟩:=Int.eq_ofNat_of_zero_le h2;obtain ⟨c,rfl⟩:=Int.eq_ofNat_of_zero_le h3;have hpa':pa=[.int .u64 (.ofNat x),.int .u64 (.ofNat y),.int .u64 (.ofNat c)]:=by
   have:some [PV.int .u64 (x:Int),.int .u64 (y:Int),.int .u64 (c:Int)]=some pa:=hpa
   exact (Option.some.inj this).symm
  subst hpa';have hcb:Nat.ble c 1=true:=by simp;omega
  refine ⟨0,{v:= .tup [.int .u64 (.ofNat ((x+y+c)%18446744073709551616)),.int .u64 (.ofNat ((x+y+c) / 18446744073709551616))],rd:=toksL (dO sto eU) as},?_,_,rfl,rfl⟩;show callPure F (run F 0) false f as sto fz=_;simp only [callPure,hex,hf,EC,hcb,if_true];rfl
theorem kW.zero {f:FuncId} {c:dV} (h: ∀a,c.fn a=none):kW F f c:=fun a b pa ps hb=>by rw [h a] at hb;cases hb
theorem aJ.zero {f:FuncId} {c:bJ} (h: ∀a,c.fn a=none):aJ F f c:=fun a b as pa sto fz hb=>by rw [h a] at hb;cases hb
end
end Go.Vm
/- What comes in to a law, as typed values; a law from a contract. -/
namespace Go.Vm
open Go.ChangeShapes Go.WideShapes Go.ChangeAt Go.RowKit
def PT.wf:(p:PT)->p.T->Prop
 | .i k,n=>(Lit.int k n).wf=true
 | .b,_=>True
def RT.wf:(r:List PT)->RT r->Prop
 | [],_=>True
 | [p],a=>p.wf a
 |p::q::r,a=>p.wf a.1/\RT.wf (q::r) a.2
def gE (r:List PT) (vs:List SV):Prop:= ∃a:RT r,vs=RT.sv r a/\RT.wf r a
def R0 (r:List PT) (vs:List SV):Prop:= ∃l:List (RT r),vs=[.sl r l]/\ ∀a∈l,RT.wf r a
def aCF:List (List SV->Prop)->List SV->Prop
 | [],vs=>vs=[]
 |K::Ks,vs=> ∃a b,vs=a++b/\K a/\aCF Ks b
theorem gE.cons {p:PT}: ∀{r:List PT} {a b:List SV},gE [p] a->gE r b->gE (p::r) (a++b)
 | [],a,b,⟨x,hx,wx⟩,⟨y,hy,_⟩=>⟨x,by rw [hx,hy];rfl,wx⟩
 |q::r,a,b,⟨x,hx,wx⟩,⟨y,hy,wy⟩=>⟨(x,y),by rw [hx,hy];rfl,wx,wy⟩
theorem gE.split {p q:PT} {r:List PT} {vs:List SV}:gE (p::q::r) vs-> ∃a b,vs=a++b/\gE [p] a/\gE (q::r) b
 |⟨x,hx,wx⟩=>⟨[p.sv x.1],RT.sv (q::r) x.2,hx,⟨x.1,rfl,wx.1⟩,⟨x.2,rfl,wx.2⟩⟩
theorem gE.app: ∀{r s:List PT} {a b:List SV},gE r a->gE s b->gE (r++s) (a++b)
 | [],s,a,b,⟨x,hx,_⟩,h=>by
  have:a=[]:=hx
  subst this;exact h
 | [p],s,a,b,h,k=>gE.cons h k
 |p::q::r,s,a,b,h,k=>by
  obtain ⟨a1,a2,rfl,h1,h2⟩:=gE.split h
  rw [List.append_assoc];exact gE.cons h1 (gE.app h2 k)
theorem nN: ∀{rs:List (List PT)} {vs:List SV},aCF (rs.map gE) vs->gE rs.flatten vs
 | [],vs,h=>by
  have:vs=[]:=h
  subst this;exact ⟨(),rfl,trivial⟩
 |r::rs,vs,⟨a,b,h1,h2,h3⟩=>by
  subst h1;rw [List.flatten_cons];exact gE.app h2 (nN h3)
def bZ (P : Program) (t : TypeId) (K : List SV -> Prop) : Prop :=
  ∀ (H : Type) (enc : TypeId × Value -> H) (w : World) (fuel : Nat) (cs : List Value) (x : DataW H × List MemPlace), DataW.trod enc P w 0 (fun _ => true) true fuel t cs = some x ->
    ∃ vs q, K vs /\ pvL vs = some q /\ VRL (MU w) gK q cs
section
variable {P : Program}
theorem bZ.mono {t:TypeId} {K K':List SV->Prop} (h:bZ P t K) (hk: ∀vs,K vs->K' vs):bZ P t K':=fun H enc w fuel cs x hx=>by
 obtain ⟨vs,q,h1,h2,h3⟩:=h H enc w fuel cs x hx;exact ⟨vs,q,hk vs h1,h2,h3⟩
theorem bZ.int {t:TypeId} {k:IntKind} (ht:P.underlying t=some (.int k)):bZ P t (gE [.i k]):=fun H enc w fuel cs x h=>by
 obtain ⟨n,rfl,_,hw⟩:=DataW.trod_int ht h;exact ⟨[.int k n],[.int k n],⟨n,rfl,hw⟩,rfl,.cons _ _ _ _ (.int k n) .nil⟩
theorem bZ.bool {t:TypeId} (ht:P.underlying t=some .bool):bZ P t (gE [.b]):=fun H enc w fuel cs x h=>by
 obtain ⟨b,rfl,_⟩:=DataW.trod_bool ht h;exact ⟨[.bool b],[.bool b],⟨b,rfl,trivial⟩,rfl,.cons _ _ _ _ (.bool b) .nil⟩
def bA (P:Program):List Field->List (List SV->Prop)->Nat->Prop
 | [],[],_=>True
 |f::fs,K::Ks,off=>f.offset=off/\bZ P f.type K/\bA P fs Ks (off+P.cellsOf f.type)
 |_,_,_=>False
theorem bA.nil {off:Nat}:bA P [] [] off:=trivial
theorem bA.cons {f:Field} {fs:List Field} {K:List SV->Prop} {Ks:List (List SV->Prop)} {off:Nat} (h1:f.offset=off) (h2:bZ P f.type K) (h3:bA P fs Ks (off+P.cellsOf f.type)):bA P (f::fs) (K::Ks) off:=⟨h1,h2,h3⟩
def B9 (P:Program):List Field->Nat
 | []=>0
 |f::fs=>P.cellsOf f.type+B9 P fs
theorem LO {im:Im} {loc:dN}: ∀{p:List PV} {vs:List Value} {q:List PV} {us:List Value},VRL im loc p vs->VRL im loc q us->VRL im loc (p++q) (vs++us)
 | [],[],_,_,.nil,h=>h
 |_::_,_::_,_,_,.cons x v xs ws h hs,k=> .cons x v _ _ h (LO hs k)
theorem LP {H:Type} {enc:TypeId×Value->H} {w:World} {n:Nat} {cs:List Value}: ∀{fs:List Field} {Ks:List (List SV->Prop)} {off:Nat},bA P fs Ks off->cs.length=off+B9 P fs->
 (∀f∈fs,∃x,DataW.trod enc P w 0 (fun _=>true) true n f.type ((cs.drop f.offset).take (P.cellsOf f.type))=some x)-> ∃vs q,aCF Ks vs/\pvL vs=some q/\VRL (MU w) gK q (cs.drop off)
 | [],[],off,_,hl,_=>⟨[],[],rfl,rfl,by rw [List.drop_eq_nil_of_le (by simp [B9] at hl;omega)];exact .nil⟩
 |f::fs,K::Ks,off,⟨h1,h2,h3⟩,hl,hx=>by
  obtain ⟨x,hx1⟩:=hx f (by simp)
  obtain ⟨vs,q,k1,k2,k3⟩:=h2 H enc w n _ x hx1;obtain ⟨vs',q',k1',k2',k3'⟩:=LP (n:=n) h3 (by simp only [B9] at hl;omega) (fun g hg=>hx g (by simp [hg]))
  refine ⟨vs++vs',q++q',⟨vs,vs',rfl,k1,k1'⟩,EN k2 k2',?_⟩;rw [h1] at k3
  have:cs.drop off=(cs.drop off).take (P.cellsOf f.type)++cs.drop (off+P.cellsOf f.type):=by
   rw [<- List.drop_drop,List.take_append_drop]
  rw [this];exact LO k3 k3'
 | [],_::_,_,h,_,_=>h.elim
 |_::_,[],_,h,_,_=>h.elim
theorem bZ.struct {t:TypeId} {fs:Array Field} {Ks:List (List SV->Prop)} (ht:P.underlying t=some (.struct fs)) (hF:bA P fs.toList Ks 0) (hc:P.cellsOf t=B9 P fs.toList):bZ P t (aCF Ks):=fun H enc w fuel cs x h=>by
 obtain ⟨xs,n,rfl,_,hl,hxl,hall⟩:=DataW.trod_struct ht h
 have:=LP (P:=P) (enc:=enc) (w:=w) (n:=n) (cs:=cs) hF (by omega) (fun f hf=>by
  obtain ⟨i,hi,he⟩:=List.mem_iff_getElem.1 hf;have hi':i<fs.size:=by simpa using hi
  have hg:fs[i]? =some f:=by rw [Array.getElem?_eq_getElem hi'];simpa using he
  have:=hall i f hg
  rw [List.getElem?_eq_getElem (by omega)] at this
  exact ⟨_,this⟩)
 rwa [List.drop_zero] at this
theorem RT.vrl {r:List PT} {a:RT r} {q:List PV} (h:pvL (RT.sv r a)=some q):q=RT.pv r a:=by
 rw [RT.pv_sv] at h;exact (Option.some.inj h).symm
theorem VRL.nth {im:Im} {loc:dN}: ∀{p:List PV} {vs:List Value},VRL im loc p vs-> ∀(k:Nat) (c:PV),p[k]? =some c-> ∃v,vs[k]? =some v/\VR im loc c v
 |_::_,_::_,.cons x v xs ws h hs,0,c,hc=>by
  simp at hc;subst hc;exact ⟨v,by simp,h⟩
 |_::_,_::_,.cons x v xs ws h hs,k+1,c,hc=>by
  obtain ⟨u,h1,h2⟩:=VRL.nth hs k c (by simpa using hc)
  exact ⟨u,by simpa using h1,h2⟩
theorem bZ.slice {t e:TypeId} {r:List PT} (ht:P.underlying t=some (.slice e)) (he:bZ P e (gE r)) (hc:P.cellsOf e=r.length) (hr:0<r.length):bZ P t (R0 r):=fun H enc w fuel cs x h=>by
 rcases Go.Deep.open_slice ht h with ⟨rfl,_⟩|⟨a,len,cap,m,n,D,Pl,rfl,_,hl,hm,hmm,_,hx⟩
 · exact ⟨[.sl r []],[.sl r.length false []],⟨[],rfl,by simp⟩,rfl,.cons _ _ _ _ (.sl r.length false [] none 0 (Nat.le_refl _) (fun h=>by cases h) (fun h=>absurd rfl h)) .nil⟩
 · have hm':len<=m:=by rw [hmm];split<;>omega
   have each: ∀i,i<len-> ∃A:RT r,RT.wf r A/\ ∃cs',w.cells? 0 (a.add (i*r.length)) r.length=some cs'/\VRL (MU w) gK (RT.pv r A) cs':=by
    intro i hi;obtain ⟨cs',h1,h2⟩:=hx i (by omega)
    obtain ⟨vs,q,⟨A,hA,wA⟩,k2,k3⟩:=he H enc w n cs' _ h2;subst hA;rw [RT.vrl k2] at k3;rw [hc] at h1;exact ⟨A,wA,cs',h1,k3⟩
   have ch: ∃A:Nat->RT r,∀i,i<len->RT.wf r (A i)/\ ∃cs',w.cells? 0 (a.add (i*r.length)) r.length=some cs'/\VRL (MU w) gK (RT.pv r (A i)) cs':=by
    classical
    refine ⟨fun i=>if h:i<len then (each i h).choose else RT.zero r,fun i hi=>?_⟩
    simp only [dif_pos hi];exact (each i hi).choose_spec
   obtain ⟨A,hA⟩:=ch;refine ⟨[.sl r ((List.range len).map A)],[.sl r.length false (((List.range len).map A).map (RT.pv r))],⟨_,rfl,fun x hx=>?_⟩,rfl,.cons _ _ _ _ ?_ .nil⟩
   · obtain ⟨i,hi,rfl⟩:=List.mem_map.1 hx
     exact (hA i (List.mem_range.1 hi)).1
   · have hlen:(((List.range len).map A).map (RT.pv r)).length=len:=by simp
     have:=VR.sl (im:=MU w) (loc:=gK) r.length false (((List.range len).map A).map (RT.pv r)) (some a) cap (by rw [hlen];exact hl) (fun h=>by cases h) (fun hne=>by
      have hpos:0<len:=by
       rcases Nat.eq_zero_or_pos len with h|h
       · subst h;exact absurd rfl hne
       · exact h
      obtain ⟨_,cs0,h0,_⟩:=hA 0 hpos;obtain ⟨_,hl0,hc0⟩:=World.cells?_some h0;obtain ⟨b,off,spot⟩:=a;have hspot:spot=none:=by
       have h1:=hc0 0 hr;rw [List.getElem?_eq_getElem (by omega)] at h1
       simpa [Addr.add] using World.cell?_spot h1
      subst hspot;refine ⟨b,off,rfl,fun i row hrow=>?_⟩
      simp only [List.map_map,List.getElem?_map,Option.map_eq_some_iff] at hrow;obtain ⟨j,hj,rfl⟩:=hrow;have hjl:=cK hj
      have:j=i:=by
       rw [List.getElem?_range (by simpa using hjl)] at hj
       exact (Option.some.inj hj).symm
      subst this;have hjlen:j<len:=by simpa using hjl
      obtain ⟨_,cs',h1,h2⟩:=hA j hjlen;obtain ⟨_,hl1,hc1⟩:=World.cells?_some h1;refine ⟨RT.pv_len r (A j),fun k c hk=>?_⟩
      obtain ⟨v,hv,hvr⟩:=VRL.nth h2 k c hk;have hkr:k<r.length:=by
       have:=cK hk
       rwa [Function.comp,RT.pv_len] at this
      have cc:=hc1 k hkr;rw [hv] at cc;rw [Go.WideShapes.add_plain,Go.WideShapes.add_plain] at cc;have hpl:c.plain=true:=List.all_eq_true.1 (RT.plain r (A j)) c (List.mem_of_getElem? hk);exact ⟨v,hvr.plain hpl,Y2 cc⟩)
     rw [hlen] at this;exact this
theorem bZ.argS {t:TypeId} {fs:Array Field} {K:List SV->Prop} (h:bZ P t K) (ht:P.underlying t=some (.struct fs)) {H:Type} {enc:TypeId×Value->H} {w:World} {base:Nat} {v:Value} {d:DataW H} {p:List MemPlace}
 (hv:Value.okWide P w .any base t v) (hd:DataW.Trod enc P w 0 (fun _=>true) true t v d p): ∃vs q,K vs/\pvL vs=some q/\VR (MU w) gK (.agg q) v:=by
 obtain ⟨cs,rfl,_⟩:=okWide_struct ht hv;obtain ⟨fuel,hf⟩:=hd;obtain ⟨vs,q,k1,k2,k3⟩:=h H enc w fuel _ _ hf;exact ⟨vs,q,k1,k2,.agg q _ k3⟩
theorem HS {n:Int} (h:(Lit.int .i64 n).wf=true): -9223372036854775808<=n/\n<9223372036854775808:=by
 simp only [Lit.wf,Bool.and_eq_true,decide_eq_true_eq] at h;have e1:IntKind.i64.min= -9223372036854775808:=by decide
 have e2:IntKind.i64.max=9223372036854775807:=by decide
 rw [e1,e2] at h;omega
end
theorem aJ.runA {F:oY} {f:FuncId} {x:aN} {α:Type} {A:aB α} {fn:α->Option Bool} (h:aJ F f ⟨A,aK.bool,fn,.pure,false⟩) (hf:F f=some (.code x)) {a:α} (hb:fn a=some true) {ps:List PV} (hp:pvL (A.enc a)=some ps) (hx:exL [] (BN [] eU) ps=some ps):
 ∃n s z,run F n (.func f ps [] [])=some (.func (.bool true) s z):=by
 obtain ⟨n,r,h1,p,h2,rfl⟩:=h a true ps ps [] [] hb hp hx;have hp':p= .bool true:=(Option.some.inj h2).symm;subst hp';refine ⟨n,?_⟩;simp only [callPure,hx,hf] at h1;split at h1
 · rename_i v s z hr
   simp only [Bool.false_eq_true,if_false] at h1;split at h1
   · injection h1 with h1
     injection h1 with h1;subst h1;exact ⟨s,z,hr⟩
   · rename_i hn
     split at h1
     · rename_i v' hv
       injection h1 with h1;injection h1 with h1;subst h1;exfalso;cases v with
       |bool b=>exact hn rfl
       |int _ _|str _|sl _ _ _=>injection hv with hv;cases hv
       |agg cs=>simp only [CV,Option.map_eq_some_iff] at hv;obtain ⟨_,_,hv⟩:=hv;cases hv
       |tup cs=>simp only [CV,Option.map_eq_some_iff] at hv;obtain ⟨_,_,hv⟩:=hv;cases hv
       |own t e off len cap ex=>simp only [CV] at hv;split at hv<;>first|(injection hv with hv;cases hv)|cases hv
       |_=>cases hv
     · cases h1
 · cases h1
end Go.Vm
