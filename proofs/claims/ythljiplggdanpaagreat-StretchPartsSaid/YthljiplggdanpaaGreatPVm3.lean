/- The logical machine, part 3: SvOps1, SvOps2, SvOps3, SvOps4, SvNorm, SvCall, SvFp, SvRun, SvCon, SvLaw, SvLaw2, SvSort, SvSortI. -/
import Derived.Test.YthljiplggdanpaaGreatPVm2
import Derived.Test.YthljiplggdanpaaGreatPVm1
import Derived.Sort.Grow
open Nat renaming eq_of_beq_eq_true->EQ,ble->aa9,le_of_ble_eq_true->ab3,beq->ab4,lt_or_ge->abA,beq_refl->acl,blt->ad1,le_refl->ad2,min_eq_left->ad9,beq_eq->adY,eq_zero_or_pos->ae3,zero_add->ae5,le_of_lt->ae7,sub_self->aez
open Bool renaming and_eq_true->If,and_self->abe,false_eq_true->abi,not_false->adW,and_true->adX,true->aeS,false->aeT
open List renaming getElem?_eq_some_iff->IR,getElem?_take_of_lt->NE,getElem?_eq_getElem->PP,getElem?_append_right->UV,getElem?_append_left->aaF,getElem?_set->ab1,append_assoc->aba,length_map->abb,append_nil->abd,map_cons->abf,length_cons->abg,replicate->abh,length_eq_zero_iff->abj,all_eq_true->abk,take_of_length_le->abl,map_take->abn,drop_zero->abo,mem_of_getElem?->abu,length_take->abw,getElem?_eq_none_iff->aby,mem_cons_self->abz,mem_append_right->abC,mem_cons_of_mem->abD,mem_append_left->abE,getElem_of_mem->abG,mem_singleton->acm,pairwise_cons->acp,ext_getElem?->ad3,getElem?_map->ad4,map_drop->ad6,map_append->adc,range->ae0,flatMap_cons->ae8,cons_append->aec,mem_flatMap->aef,all_append->aet,map_set->aeG,map_nil->aeH,all_map->aeI,mem_map->aeJ,length->aeL
open Int renaming eq_ofNat_of_zero_le->WF,ofNat->abv,le_trans->abJ
open Option renaming map_eq_some_iff->aaE,getD_none->ad8,map_some->adh,getD_some->aea,some->aeP,none->aeR
open Option.some renaming injEq->abc,inj->abm
open Array renaming getElem?_eq_some_iff->aco,getElem?_eq_getElem->acr,getElem?_modify->adU,getElem?_mapIdx->adV
open Go.World renaming cells?_some->ae9
open Prod.mk renaming injEq->aew
open Decidable renaming decide->aeU
/- Operation by operation: what the typed machine does, the logical machine does; the easy ones. -/
namespace Go.Vm
structure Good (s:List SB) (ps:cU) (sr:iC) (pr:tz):Prop where
 rd:pr.rd=sr.rd
 fr:pr.fr=sr.fr
 wr:pr.wr.map (·.1)=FL sr.wr
 nw:As pr.wr=aeS
 nl:(aeL pr.news)=aeL sr.news
 aA:cX (sr.rh s) (zx (ly pr.wr ps) pr.news)
 v:R (sr.rh s) sr.v pr.v
 fra:Fr (FL sr.wr) s (sr.rh s)
section
variable {s : List SB} {ps : cU}
theorem Good.val (hS:cX s ps) {v:SV} {p:PV} {rd fr:List Nat} (hv:R s v p):Good s ps {v,rd,fr} {v:=p,rd,fr} where
 rd:=rfl
 fr:=rfl
 wr:=rfl
 nw:=rfl
 nl:=rfl
 aA:=by simp [iC.rh,pY,abd,];exact hS
 v:=by simp [iC.rh,pY,abd];exact hv
 fra:=by simp [iC.rh,pY,abd];exact Fr.refl _ _
theorem Good.news (hS:cX s ps) {v:SV} {p:PV} {l:List SB} {q:cU} {rd:List Nat} (hl:(aeL q)=aeL l) (hb: ∀(j:Nat) (b:SB),l[j]? =aeP b-> ∃x,q[j]? =aeP x/\RB (s++l) b x) (hv:R (s++l) v p):
 Good s ps {v,news:=l,rd} {v:=p,news:=q,rd} where
 rd:=rfl
 fr:=rfl
 wr:=rfl
 nw:=rfl
 nl:=hl
 aA:=by simp [iC.rh,pY,ya];exact hS.app hl hb
 v:=by simp [iC.rh,pY];exact hv
 fra:=by simp [iC.rh,pY];exact Fr.app _ _ _
theorem Good.new (hS:cX s ps) {v:SV} {p:PV} {b:SB} {q:om} {rd:List Nat} (hb:RB (s++[b]) b q) (hv:R (s++[b]) v p):Good s ps {v,news:=[b],rd} {v:=p,news:=[q],rd}:=
 Good.news hS rfl (fun j x h=>by
  grind) hv
def UE (b0 b:SB):Prop:=
 match b0 with
 | .arr r l=>(∃l',b= .arr r l'/\aeL l'=aeL l)\/b= .dead
 | .dead=>b= .dead
 | .box _=>(∃cs,b= .box cs)\/b= .dead
 |_=>True
theorem Fr.set {t:Nat} {b0 b:SB} (h0:s[t]? =aeP b0) (hk:UE b0 b):Fr [t] s (s.set t b):=fun u x hu=>by
 by_cases hut:t=u
 · subst hut
   rw [h0] at hu;injection hu with hu;subst hu;have iz:=(IR.1 h0).1;have hb:(s.set t b)[t]? =aeP b:=by simp [iz]
   cases b0 with
   |arr r l=>
    rcases hk with ⟨l',rfl,hl⟩|rfl
    · exact .inl ⟨l',hb,hl,fun h=>by simp [has] at h⟩
    exact .inr hb
   |dead=>rw [hk] at hb ⊢;exact hb
   |box cs=>
    rcases hk with ⟨c2,rfl⟩|rfl
    · exact .inl ⟨c2,hb⟩
    exact .inr hb
   |_=>trivial
 grind
theorem cX.put (hS:cX s ps) {t:Nat} {b0 b:SB} {q:om} (h0:s[t]? =aeP b0) (hk:UE b0 b) (hq:RB (IH [t] (s.set t b)) (dgB [t] b) q):cX (IH [t] (s.set t b)) (ps.set t q) where
 len:=by simp [AH,hS.len]
 at_:=fun u x hu=>by
  have iz:=(IR.1 h0).1;rw [wJ] at hu
  by_cases hut:t=u
  · subst hut
    have hb:(s.set t b)[t]? =aeP b:=by simp [iz]
    rw [hb] at hu;simp at hu;subst hu;exact ⟨q,by rw [ab1];simp [hS.len,iz],hq⟩
  simp [hut,aaE] at hu
  obtain ⟨y,hy,rfl⟩:=hu;obtain ⟨q',h1,h2⟩:=hS.at_ u y hy;exact ⟨q',by grind,h2.fr (Fr.dg (Fr.set h0 hk))⟩
theorem Good.put (hS:cX s ps) {v:SV} {p:PV} {t:Nat} {b0 b:SB} {q:om} {l:List SB} {ql:cU} {rd:List Nat} (h0:s[t]? =aeP b0) (hk:UE b0 b) (hq:RB (IH [t] (s.set t b)) (dgB [t] b) q)
 (hl:(aeL ql)=aeL l) (hb: ∀(j:Nat) (x:SB),l[j]? =aeP x-> ∃y,ql[j]? =aeP y/\RB (IH [t] (s.set t b)++l) x y) (hv:R (IH [t] (s.set t b)++l) v p):
 Good s ps {v,wr:=[(t,b)],news:=l,rd} {v:=p,wr:=[(t,q)],news:=ql,rd} where
 rd:=rfl
 fr:=rfl
 wr:=rfl
 nw:=rfl
 nl:=hl
 aA:=by simp [iC.rh,pY,ya,xt,FN];exact (hS.put h0 hk hq).app hl hb
 v:=by simp [iC.rh,pY,xt,FN];exact hv
 fra:=by simp [iC.rh,pY,xt,FN];exact (Fr.dg (Fr.set h0 hk)).trans (Fr.app _ _ _)
theorem Good.YS (hS:cX s ps) {t:Nat} {b0 b:SB} {q:om} {rd:List Nat} (h0:s[t]? =aeP b0) (hk:UE b0 b) (hq:RB (IH [t] (s.set t b)) (dgB [t] b) q):
 Good s ps {v:= .undef,wr:=[(t,b)],rd} {v:= .undef,wr:=[(t,q)],rd}:=
 Good.put hS h0 hk hq rfl (fun j x h=>by simp at h) rfl
end
section
variable {R' ρ : Type} {w : R' -> ρ} {y : ρ}
theorem bU {α:Type} {x:Option α} {k:α->jc R'} (h:oJ x k ρ w=aeP y): ∃a,x=aeP a/\k a ρ w=aeP y:=by
 cases x with
 |none=>cases h
 |some a=>exact ⟨a,rfl,h⟩
theorem dd {α:Type} {x:Option α} {k:α->jc R'} (h:ox x k ρ w=aeP y): ∃a,x=aeP a/\k a ρ w=aeP y:=Sr h
theorem gz {c:Bool} {a b:jc R'} (h:jh c a b ρ w=aeP y):(c=aeS/\a ρ w=aeP y)\/(c=aeT/\b ρ w=aeP y):=Ss h
theorem de {c:Bool} {a:jc R'} (h:(bif c then a else aR) ρ w=aeP y):c=aeS/\a ρ w=aeP y:=by
 cases c
 · cases h
 grind
theorem wY {c:Bool} {a:jc R'} (h:(bif c then aR else a) ρ w=aeP y):c=aeT/\a ρ w=aeP y:=by
 cases c
 · grind
 cases h
theorem kx {c:Bool} {a:jc R'} (h:jh c a aR ρ w=aeP y):c=aeS/\a ρ w=aeP y:=by
 rcases gz h with ⟨h1,h2⟩|⟨_,h2⟩
 · grind
 cases h2
theorem AI {c:Bool} {a:jc R'} (h:jh c aR a ρ w=aeP y):c=aeT/\a ρ w=aeP y:=by
 rcases gz h with ⟨_,h2⟩|⟨h1,h2⟩
 · cases h2
 grind
end
def ji {R':Type} (s:List SB) (ps:cU) (po:Option tz) (k:iC->jc R') (ρ:Type) (w:R'->ρ) (y:ρ):Prop:=
 ∃sr pr,po=aeP pr/\Good s ps sr pr/\k sr ρ w=aeP y
section
variable {R' ρ : Type} {w : R' -> ρ} {y : ρ} {s : List SB} {ps : cU} {e : SE} {pe : Env} {z : List Nat} {k : iC -> jc R'}
theorem ji.val (hS:cX s ps) {po:Option tz} {v:SV} {p:PV} (h:k {v} ρ w=aeP y) (hp:po=aeP {v:=p}) (hv:R s v p):ji s ps po k ρ w y:=
 ⟨_,_,hp,Good.val hS hv,h⟩
theorem ji.rd (hS:cX s ps) {po:Option tz} {v:SV} {p:PV} {rd:List Nat} (h:k {v,rd} ρ w=aeP y) (hp:po=aeP {v:=p,rd}) (hv:R s v p):ji s ps po k ρ w y:=
 ⟨_,_,hp,Good.val hS hv,h⟩
theorem qE (hE:eQ s e pe) {x:gR} {a:IntKind} {n:Int} (h:cq e x= .int a n):x.ev pe= .int a n:=by have:=eK hE x;rw [h] at this;exact this
theorem FO (hE:eQ s e pe) {x:gR} {b:Bool} (h:cq e x= .bool b):x.ev pe= .bool b:=by have:=eK hE x;rw [h] at this;exact this
theorem We (hE:eQ s e pe) {x:gR} {v:SV} (h:cq e x=v):R s v (x.ev pe):=by
 grind [eK]
theorem Qo (k:IntKind):gM k k=aeS:=by cases k<;>rfl
theorem SI (hS:cX s ps) {op:BinOp} {a:IntKind} {m n:Int} (h:Sv op a m n (ofV k) ρ w=aeP y): ∃p,arith op a m n=aeP p/\ji s ps (aeP {v:=p}) k ρ w y:=by
 cases op with
 |quo=>
  obtain ⟨h1,h2⟩:=AI h;have hn:n≠0:=by grind
  exact ⟨_,by simp [arith,Do hn],ji.val hS h2 rfl rfl⟩
 |rem=>
  obtain ⟨h1,h2⟩:=AI h;have hn:n≠0:=by grind
  exact ⟨_,by simp [arith,Do hn],ji.val hS h2 rfl rfl⟩
 |shl=>cases h
 |shr=>cases h
 |_=>exact ⟨_,rfl,ji.val hS h rfl rfl⟩
theorem ab8 (hE:eQ s e pe) (hS:cX s ps) {op:BinOp} {a b:gR} (h:rU e s z (.bin op a b) k ρ w=aeP y):ji s ps (bO pe ps z (.bin op a b)) k ρ w y:=by
 simp [rU] at h;generalize ha:cq e a=va at h;cases va with
 |int ka m=>
  generalize hb:cq e b=vb at h;cases vb with
  |int kb n=>
   have h1:=qE hE ha;have h2:=qE hE hb;have key:(op≠ .shl)->(op≠ .shr)->(bif gM ka kb then Sv op ka m n (ofV k) else aR) ρ w=aeP y->ji s ps (bO pe ps z (.bin op a b)) k ρ w y:=by
    intro n1 n2 h;obtain ⟨hk,h⟩:=de h;obtain ⟨p,hp,hs⟩:=SI hS h;have:bO pe ps z (.bin op a b)=aeP {v:=p}:=by simp [bO,h1,h2];cases op<;>first|exact absurd rfl n1|exact absurd rfl n2|(simp only [Vv,hk,hp];rfl)
    grind
   cases op with
   |shl=>
    obtain ⟨hc,h⟩:=AI h;have IB: ¬n<0:=by simpa using hc
    exact ji.val hS h (by simp [bO,h1,h2,Vv,GF,Do IB];rfl) rfl
   |shr=>
    obtain ⟨hc,h⟩:=AI h;have IB: ¬n<0:=by simpa using hc
    exact ji.val hS h (by simp [bO,h1,h2,Vv,GF,Do IB];rfl) rfl
   |_=>grind
  |_=>cases h
 |_=>cases h
theorem YT (hE:eQ s e pe) (hS:cX s ps) {neg:Bool} {a b:gR} (h:rU e s z (.Pv neg a b) k ρ w=aeP y):ji s ps (bO pe ps z (.Pv neg a b)) k ρ w y:=by
 simp [rU] at h;generalize ha:cq e a=va at h;cases va with
 |bool x=>
  generalize hb:cq e b=vb at h;cases vb with
  |bool x'=>refine ji.val hS h ?_ rfl;simp only [bO,FO hE ha,FO hE hb];simp
  |_=>cases h
 |_=>cases h
theorem YU: ∀{xs ys:List SV} {ps qs:List PV} {r:Bool},RL s xs ps->RL s ys qs->eqS xs ys=aeP r->dP ps qs=aeP r
 | [],[],ps,qs,r,h1,h2,h=>by rw [h1,h2];exact h
 |x::xs,b::ys,ps,qs,r,h1,h2,h=>by
  obtain ⟨p,ps,rfl,a1,a2⟩:=h1.cons_inv;obtain ⟨q,qs,rfl,b1,b2⟩:=h2.cons_inv;simp [eqS] at h;split at h
  · rename_i ka m kb n
    have a1':=a1;have b1':=b1;subst a1' b1';cases hk:gM ka kb with
    |false=>grind
    |true=>
     rw [hk] at h;have hc:xb (.int ka m) (.int kb n)=aeP (m==n):=by simp [xb,hk,if_true]
     simp [dP,hc];cases xs with
     |nil=>
      cases ys with
      |nil=>simp [v6,abc] at h;subst h;rw [a2,b2];cases m==n<;>rfl
      |cons _ _=>cases h
     |cons x2 xs2=>
      simp [] at h;split at h
      · rename_i r' hr
        injection h with h;subst h;rw [YU a2 b2 hr]
        grind
      cases h
  cases h
 | [],_::_,ps,qs,r,h1,h2,h=>by cases h
 |_::_,[],ps,qs,r,h1,h2,h=>by cases h
theorem ab9 (hE:eQ s e pe) (hS:cX s ps) {n:Nat} {neg:Bool} {a b:gR} (h:rU e s z (.eqc n neg a b) k ρ w=aeP y):ji s ps (bO pe ps z (.eqc n neg a b)) k ρ w y:=by
 simp [rU] at h;generalize ha:cq e a=va at h;cases va with
 |agg xs=>
  generalize hb:cq e b=vb at h;cases vb with
  |agg ys=>obtain ⟨hl,h⟩:=de h;obtain ⟨r,hr,h⟩:=bU h;obtain ⟨p,hp,h1⟩:=We hE ha;obtain ⟨q,hq,h2⟩:=We hE hb;refine ji.val hS h ?_ rfl;simp only [bO,hp,hq,h1.qA,h2.qA];rw [AC hl,YU h1 h2 hr];simp
  |_=>cases h
 |_=>cases h
theorem afR (hE:eQ s e pe) (hS:cX s ps) {op:UnOp} {a:gR} (h:rU e s z (.un op a) k ρ w=aeP y):ji s ps (bO pe ps z (.un op a)) k ρ w y:=by
 simp only [rU] at h;cases op with
 |neg=>
  generalize ha:cq e a=va at h;cases va with
  |int ka n=>exact ji.val hS h (by simp only [bO,qE hE ha];rfl) rfl
  |_=>cases h
 |not=>
  generalize ha:cq e a=va at h;cases va with
  |bool b=>exact ji.val hS h (by simp [bO,FO hE ha];rfl) rfl
  |_=>cases h
 |_=>cases h
theorem YV (hE:eQ s e pe) (hS:cX s ps) {a:IntKind} {x:gR} (h:rU e s z (.conv a x) k ρ w=aeP y):ji s ps (bO pe ps z (.conv a x)) k ρ w y:=by
 simp [rU] at h;generalize ha:cq e x=va at h;cases va with
 |int ka n=>exact ji.val hS h (by simp [bO,qE hE ha]) rfl
 |_=>cases h
theorem ab' (hE:eQ s e pe) (hS:cX s ps) {x:gR} (h:rU e s z (.len x) k ρ w=aeP y):ji s ps (bO pe ps z (.len x)) k ρ w y:=by
 simp only [rU] at h;have hx:=eK hE x;generalize cq e x=v at h hx;cases v with
 |nil e' c=>exact ji.val hS h (by simp only [bO,show x.ev pe= .sl e' c [] from hx];rfl) rfl
 |pre t len cap ex=>obtain ⟨e',hx,_⟩:=hx;exact ji.val hS h (by simp [bO,hx]) rfl
 |part t off len cap ex=>obtain ⟨e',hx,_⟩:=hx;exact ji.val hS h (by simp [bO,hx]) rfl
 |sl q m=>exact ji.val hS h (by simp [bO,show x.ev pe=_ from hx,abb]) rfl
 |own t ex=>
  obtain ⟨c,hc,h⟩:=bU h;simp [D6,cJ] at hc;split at hc
  · rename_i q m cO
    injection hc with hc;subst hc;obtain ⟨e',n,hx,dH⟩:=hx;rcases dH with ⟨q',m',h1,rfl,rfl⟩|h1
    · rw [cO] at h1;injection h1 with h1;cases h1
      exact ji.val hS h (by simp [bO,hx]) rfl
    grind
  cases hc
 |_=>obtain ⟨c,hc,h⟩:=bU h;cases hc
theorem FP: ∀{l:List (Nat×Nat×SV)} {pl:List (Nat×Nat×PV)} {cs:List SV} {pc:List PV} {r:List SV},
 (aeL pl=aeL l/\ ∀(j:Nat) (a:Nat×Nat×SV),l[j]? =aeP a-> ∃b,pl[j]? =aeP (a.1,a.2.1,b)/\R s a.2.2 b)->RL s cs pc->AF l cs=aeP r-> ∃q,qT pl pc=aeP q/\RL s r q
 | [],pl,cs,pc,r,hl,hc,h=>by have:=abj.1 hl.1;subst this;injection h with h;subst h;exact ⟨pc,rfl,hc⟩
 |(off,sz,v)::l,pl,cs,pc,r,hl,hc,h=>by
  cases pl with
  |nil=>simp at hl
  |cons p pl=>
   obtain ⟨b,h1,h2⟩:=hl.2 0 _ rfl;simp at h1;subst h1;simp [AF] at h;split at h
   · rename_i w hw
     obtain ⟨q,hq,hqr⟩:=h2.stored hw;cases aji:(ab4 (aeL w) sz&&aa9 (off+sz) (aeL cs)) with
     |false=>grind
     |true=>
      rw [aji] at h;obtain ⟨q2,h3,h4⟩:=FP ⟨by simpa using hl.1,fun j a ha=>hl.2 (j+1) a (by simpa using ha)⟩ (Ds hqr hc) h;simp only [qT,hq,hqr.qA,hc.qA]
      grind
   cases h
theorem Qp (hE:eQ s e pe): ∀(l:List (Nat×Nat×gR)),((l.map fun p=>(p.1,p.2.1,p.2.2.ev pe)).length=(Cm e l).length/\ ∀(j:Nat) (a:Nat×Nat×SV),(Cm e l)[j]? =aeP a-> ∃b,(l.map fun p=>(p.1,p.2.1,p.2.2.ev pe))[j]? =aeP (a.1,a.2.1,b)/\R s a.2.2 b)
 | []=>⟨rfl,fun j a h=>by simp [Cm] at h⟩
 |p::l=>by
  obtain ⟨h1,h2⟩:=Qp hE l;refine ⟨by simp [Cm] at h1 ⊢;omega,fun j a h=>?_⟩;cases j with
  |zero=>simp [Cm] at h;subst h;exact ⟨_,rfl,eK hE _⟩
  |succ j=>simp [Cm,] at h;grind
theorem Wf (hE:eQ s e pe) (hS:cX s ps) {zero:List PV} {parts:List (Nat×Nat×gR)} (h:rU e s z (.build zero parts) k ρ w=aeP y):ji s ps (bO pe ps z (.build zero parts)) k ρ w y:=by obtain ⟨cs,hc,h⟩:=bU h;obtain ⟨q,hq,hr⟩:=FP (Qp hE parts) (AG s zero) hc;exact ji.val hS h (by simp only [bO,hq];rfl) ⟨q,rfl,hr⟩
theorem aca (hE:eQ s e pe) (hS:cX s ps) {x:gR} (h:rU e s z (.box x) k ρ w=aeP y):ji s ps (bO pe ps z (.box x)) k ρ w y:=by obtain ⟨cs,hc,h⟩:=bU h;obtain ⟨q,hq,hr⟩:=(eK hE x).stored hc;refine ⟨_,_,?_,Good.new hS (b:= .box cs) (v:= .bp (aeL s) (aeL cs) 0) ⟨q,rfl,hr.ext (Fr.app _ _ _)⟩ rfl,h⟩;simp [bO,hq,hS.len,hr.qA]
theorem Wg (hS:cX s ps) {cells:List PV} (h:rU e s z (.alloc cells) k ρ w=aeP y):ji s ps (bO pe ps z (.alloc cells)) k ρ w y:=by refine ⟨_,_,?_,Good.new hS (b:= .box (FH cells)) (v:= .bp (aeL s) (aeL cells) 0) ⟨cells,rfl,AG _ _⟩ rfl,h⟩;simp [bO,hS.len]
theorem YW (hE:eQ s e pe) (hS:cX s ps) {x:gR} (h:rU e s z (.Pw x) k ρ w=aeP y):ji s ps (bO pe ps z (.Pw x)) k ρ w y:=by
 simp [rU] at h;have hx:=eK hE x;generalize cq e x=v at h hx;cases v with
 |pa t r i a o=>exact ji.val hS h (by simp [bO,hx.1]) ⟨rfl,hx.2⟩
 |pb t i o=>obtain ⟨e',h1,h2⟩:=hx;exact ji.val hS h (by simp [bO,h1]) ⟨e',rfl,h2⟩
 |bp t n o=>exact ji.val hS h (by simp [bO,show x.ev pe=_ from hx]) rfl
 |bR c o=>obtain ⟨q,h1,h2⟩:=hx;exact ji.val hS h (by simp [bO,h1]) ⟨q,rfl,h2⟩
 |fx f a b=>obtain ⟨pa,pb,h1,h2⟩:=hx;exact ji.val hS h (by simp [bO,h1]) ⟨pa,pb,rfl,h2⟩
 |_=>cases h
theorem YX (hE:eQ s e pe) (hS:cX s ps) {off:Nat} {x:gR} (h:rU e s z (.Px off x) k ρ w=aeP y):ji s ps (bO pe ps z (.Px off x)) k ρ w y:=by
 simp [rU] at h;have hx:=eK hE x;generalize cq e x=v at h hx;cases v with
 |pa t r i a o=>exact ji.val hS h (by simp [bO,hx.1]) ⟨rfl,hx.2⟩
 |pb t i o=>obtain ⟨e',h1,h2⟩:=hx;exact ji.val hS h (by simp [bO,h1]) ⟨e',rfl,h2⟩
 |bp t n o=>exact ji.val hS h (by simp [bO,show x.ev pe=_ from hx]) rfl
 |bR c o=>obtain ⟨q,h1,h2⟩:=hx;exact ji.val hS h (by simp [bO,h1]) ⟨q,rfl,h2⟩
 |_=>cases h
theorem acb (hE:eQ s e pe) (hS:cX s ps) {agg:Option Nat} {off:Nat} {x:gR} (h:rU e s z (.eM agg off x) k ρ w=aeP y):ji s ps (bO pe ps z (.eM agg off x)) k ρ w y:=by
 simp [rU] at h;generalize hv:cq e x=v at h;cases v with
 |agg cs=>obtain ⟨v,h1,h⟩:=bU h;obtain ⟨q,h2,h3⟩:=We hE hv;obtain ⟨p,h4,h5⟩:=yl h3 h1;exact ji.val hS h (by simp only [bO,h2,h4];rfl) h5
 |_=>cases h
theorem acd (hE:eQ s e pe) (hS:cX s ps) {i:Nat} {x:gR} (h:rU e s z (.ext i x) k ρ w=aeP y):ji s ps (bO pe ps z (.ext i x)) k ρ w y:=by
 simp [rU] at h;generalize hv:cq e x=v at h;cases v with
 |cV cs=>obtain ⟨v,h1,h⟩:=bU h;obtain ⟨q,h2,h3⟩:=We hE hv;obtain ⟨p,h4,h5⟩:=h3.nth h1;exact ji.val hS h (by simp only [bO,h2,h4];rfl) h5
 |_=>cases h
theorem ace (hE:eQ s e pe) (hS:cX s ps) {f:FuncId} {a b:List gR} (h:rU e s z (.mkf f a b) k ρ w=aeP y):ji s ps (bO pe ps z (.mkf f a b)) k ρ w y:=by exact ji.val hS h rfl ⟨_,_,rfl,Dq hE a,Dq hE b⟩
theorem acf (hS:cX s ps) {m:Option PV} (h:rU e s z (.mkm m) k ρ w=aeP y):ji s ps (bO pe ps z (.mkm m)) k ρ w y:=by
 cases m with
 |none=>refine ⟨_,_,?_,Good.new hS (b:= .set []) (q:= .map []) (v:= .mp (aeL s)) rfl rfl,h⟩;simp [bO,hS.len]
 |some m=>obtain ⟨p,_,h⟩:=bU h;refine ⟨_,_,?_,Good.new hS (b:= .nB p []) (q:= .map []) (v:= .mp (aeL s)) rfl rfl,h⟩;simp [bO,hS.len]
theorem aex: ∀{l:List SV} {q:List PV} {m:Bool} {a:IntKind} {n:Int} {v:SV},RL s l q->mmS m a n l=aeP v-> ∃p,mmE m a n q=aeP p/\R s v p
 | [],q,m,a,n,v,hl,h=>by rw [hl];injection h with h;subst h;exact ⟨_,rfl,rfl⟩
 |x::l,q,m,a,n,v,hl,h=>by
  obtain ⟨p,q,rfl,h1,h2⟩:=hl.cons_inv;simp [mmS] at h;split at h
  · rename_i b c
    have YR:=h1;subst YR;cases hk:gM a b with
    |true=>
     rw [hk] at h;obtain ⟨p,h3,h4⟩:=aex h2 h;refine ⟨p,?_,h4⟩;simp [mmE,]
     grind
    |false=>grind
  cases h
theorem afS (hE:eQ s e pe) (hS:cX s ps) {m:Bool} {x:gR} {xs:List gR} (h:rU e s z (.mm m x xs) k ρ w=aeP y):ji s ps (bO pe ps z (.mm m x xs)) k ρ w y:=by
 simp [rU] at h;generalize hv:cq e x=v at h;cases v with
 |int a n=>obtain ⟨v,h1,h⟩:=bU h;obtain ⟨p,h2,h3⟩:=aex (Dq hE xs) h1;exact ji.val hS h (by simp only [bO,qE hE hv,h2];rfl) h3
 |_=>cases h
theorem YY (hE:eQ s e pe) (hS:cX s ps) {c a b:gR} (h:rU e s z (.pick c a b) k ρ w=aeP y):ji s ps (bO pe ps z (.pick c a b)) k ρ w y:=by
 simp [rU] at h;generalize hv:cq e c=v at h;cases v with
 |bool x=>
  rcases gz h with ⟨rfl,h⟩|⟨rfl,h⟩
  · exact ji.val hS h (by simp [bO,FO hE hv]) (eK hE a)
  exact ji.val hS h (by simp [bO,FO hE hv]) (eK hE b)
 |_=>cases h
end
end Go.Vm
/- Operation by operation, second part: elements, blocks, slices, sets. -/
namespace Go.Vm
section
variable {R' ρ : Type} {w : R' -> ρ} {y : ρ} {s : List SB} {ps : cU} {e : SE} {pe : Env} {z : List Nat} {k : iC -> jc R'}
theorem cX.arr (hS:cX s ps) {t:Nat} {r:List PT} {l:List (RT r)} (h:s[t]? =aeP (.arr r l)):ps[t]? =aeP (.arr (aeL r) (l.map (RT.pv r))):=by obtain ⟨q,h1,h2⟩:=hS.at_ t _ h;rw [h2] at h1;exact h1
theorem cX.box (hS:cX s ps) {t:Nat} {cs:List SV} (h:s[t]? =aeP (.box cs)): ∃q,ps[t]? =aeP (.box q)/\RL s cs q:=by
 obtain ⟨q,h1,q',rfl,h2⟩:=hS.at_ t _ h
 grind
theorem cX.ajj (hS:cX s ps) {t:Nat} {l:List (List Int)} (h:s[t]? =aeP (.set l)):ps[t]? =aeP (.map (l.map G6)):=by obtain ⟨q,h1,h2⟩:=hS.at_ t _ h;rw [h2] at h1;exact h1
theorem cX.acg (hS:cX s ps) {t:Nat} {p:PT} {l:List (RT [.i .i64,p])} (h:s[t]? =aeP (.nB p l)):ps[t]? =aeP (.map (l.map (J1 p))):=by obtain ⟨q,h1,h2⟩:=hS.at_ t _ h;rw [h2] at h1;exact h1
theorem OwnAt.inv {t e n:Nat} {r:List PT} {l:List (RT r)} (h:OwnAt s t e n) (hs:s[t]? =aeP (.arr r l)):e=aeL r/\n=(aeL l):=by
 rcases h with ⟨q,m,h1,rfl,rfl⟩|h1
 · rw [hs] at h1;injection h1 with h1;cases h1;exact ⟨rfl,rfl⟩
 grind
theorem D9.inv {t e:Nat} {r:List PT} {l:List (RT r)} (h:D9 s t e) (hs:s[t]? =aeP (.arr r l)):e=(aeL r):=by
 rcases h with ⟨q,m,h1,rfl⟩|h1|⟨cs,h1,_⟩
 · rw [hs] at h1;injection h1 with h1;cases h1;rfl
 · rw [hs] at h1;cases h1
 grind
theorem YQ.inv {t:Nat} {q r:List PT} {i:Int} {a:RT q} {l:List (RT r)} (h:YQ s t q i a) (hs:s[t]? =aeP (.arr r l)): ∃e:q=r,aD l i=aeP (e▸a):=by
 rcases h with ⟨m,h1,h2⟩|h1
 · rw [hs] at h1;injection h1 with h1;cases h1;exact ⟨rfl,h2⟩
 grind
theorem afQ.inv {t:Nat} {r:List PT} {i:Int} {l:List (RT r)} (h:afQ s t i) (hs:s[t]? =aeP (.arr r l)):(aD l i).isSome=aeS:=by
 rcases h with ⟨q,m,h1,h2⟩|h1
 · rw [hs] at h1;injection h1 with h1;cases h1;exact h2
 grind
theorem wZ {α:Type} {l:List α} {n:Nat} {i:Int} {a:α} (h:aD (l.take n) i=aeP a): ∃m:Nat,i=abv m/\m<n/\l[m]? =aeP a:=by
 grind [q8,abw,NE]
theorem YZ (hE:eQ s e pe) (hS:cX s ps) {aO:Nat} {x i:gR} (h:rU e s z (.Py aO x i) k ρ w=aeP y):ji s ps (bO pe ps z (.Py aO x i)) k ρ w y:=by
 simp [rU] at h;generalize hi:cq e i=vi at h;cases vi with
 |int ki n=>
  have hi:=qE hE hi;have hx:=eK hE x;unfold aep at h;generalize cq e x=v at h hx;cases v with
  |sl r l=>
   obtain ⟨he,h⟩:=de h;obtain ⟨a,ha,hk⟩:=dd h;obtain ⟨m,rfl,hm⟩:=q8 ha;refine ji.val hS hk ?_ ⟨_,rfl,MB r a⟩;have hr:(l.map (RT.pv r))[m]? =aeP (RT.pv r a):=by simp [hm]
   simp [bO,hi,ma,show x.ev pe=_ from hx,hr,he,if_true]
  |own t ex=>
   simp [cJ] at h;generalize cO:s[t]? =b at h;cases b with
   |none=>cases h
   |some b=>
    cases b with
    |arr r l=>
     obtain ⟨he,h⟩:=de h;obtain ⟨a,ha,hk⟩:=dd h;obtain ⟨m,rfl,hm⟩:=q8 ha;obtain ⟨e',n',hx,dH⟩:=hx;obtain ⟨rfl,rfl⟩:=dH.inv cO;have iz:=(IR.1 hm).1;have h1:ad1 m (aeL l)=aeS:=by simpa using iz
     refine ji.val hS (p:= .ptr t (aeL r) m 0) hk ?_ ⟨rfl,.inl ⟨l,cO,ha⟩⟩;simp [bO,hi,ma,hx,h1,he,abe,if_true,ae5]
    |_=>cases h
  |pre t len cap ex=>
   simp [cJ] at h;generalize cO:s[t]? =b at h;cases b with
   |none=>cases h
   |some b=>
    cases b with
    |arr r l=>
     obtain ⟨he,h⟩:=de h;obtain ⟨a,ha,hk⟩:=dd h;obtain ⟨m,rfl,iz,hm⟩:=wZ ha;obtain ⟨e',hx,dH⟩:=hx;have:=dH.inv cO;subst this;have h1:ad1 m len=aeS:=by simpa using iz
     refine ji.val hS (p:= .ptr t (aeL r) m 0) hk ?_ ⟨rfl,.inl ⟨l,cO,hm⟩⟩;simp [bO,hi,ma,hx,h1,he,abe,if_true,ae5]
    |_=>cases h
  |part t off len cap ex=>
   simp only [cJ] at h;generalize cO:s[t]? =b at h;cases b with
   |none=>cases h
   |some b=>
    cases b with
    |arr r l=>
     obtain ⟨he,h⟩:=de h;obtain ⟨a,ha,hk⟩:=dd h;obtain ⟨m,rfl,iz,hm⟩:=wZ ha;rw [List.getElem?_drop] at hm;obtain ⟨e',hx,dH⟩:=hx;have:=dH.inv cO;subst this;have h1:ad1 m len=aeS:=by simpa using iz
     refine ji.val hS (p:= .ptr t (aeL r) (off+m) 0) hk ?_ ⟨rfl,.inl ⟨l,cO,hm⟩⟩;simp [bO,hi,ma,hx,h1,he,abe,if_true]
    |_=>cases h
  |_=>cases h
 |_=>cases h
theorem xu {n:Nat} {i:Int} {j:Nat} {f:Nat->jc R'}:JQ n i j f ρ w=aeP y-> ∃m,i=abv m/\j<=m/\m<j+n/\f m ρ w=aeP y:=by
 induction n generalizing j with
 |zero=>intro h;cases h
 |succ n ih=>
  intro h;rcases gz h with ⟨h1,h2⟩|⟨_,h2⟩
  · exact ⟨j,by simpa using h1,ad2 _,by omega,h2⟩
  grind
theorem Wh (hE:eQ s e pe) (hS:cX s ps) {n aO:Nat} {p i:gR} (h:rU e s z (.HI n aO p i) k ρ w=aeP y):ji s ps (bO pe ps z (.HI n aO p i)) k ρ w y:=by
 simp [rU] at h;generalize hi:cq e i=vi at h;cases vi with
 |int ki j=>
  have hi:=qE hE hi;have hx:=eK hE p;generalize cq e p=v at h hx;cases v with
  |bp t m o=>
   obtain ⟨j',rfl,_,h2,h⟩:=xu h;have h1:ad1 j' n=aeS:=by simp;omega
   exact ji.val hS h (by simp [bO,hi,ma,h1,if_true,show p.ev pe=_ from hx]) rfl
  |bR c o=>
   obtain ⟨j',rfl,_,h2,h⟩:=xu h;have h1:ad1 j' n=aeS:=by simp;omega
   obtain ⟨q,hq,hr⟩:=hx;exact ji.val hS h (by simp [bO,hi,ma,h1,if_true,hq]) ⟨q,rfl,hr⟩
  |pb t m o=>
   obtain ⟨j',rfl,_,h2,h⟩:=xu h;have h1:ad1 j' n=aeS:=by simp;omega
   obtain ⟨e',he,hr⟩:=hx;exact ji.val hS h (by simp [bO,hi,ma,h1,if_true,he]) ⟨e',rfl,hr⟩
  |pa t r i a o=>
   obtain ⟨j',rfl,_,h2,h⟩:=xu h;have h1:ad1 j' n=aeS:=by simp;omega
   exact ji.val hS h (by simp [bO,hi,ma,h1,if_true,hx.1]) ⟨rfl,hx.2⟩
  |_=>cases h
 |_=>cases h
theorem ach (hE:eQ s e pe) (hS:cX s ps) {n aO:Nat} {agg:Option Nat} {x i:gR} (h:rU e s z (.idx n aO agg x i) k ρ w=aeP y):ji s ps (bO pe ps z (.idx n aO agg x i)) k ρ w y:=by
 simp [rU] at h;generalize hi:cq e i=vi at h;cases vi with
 |int ki j=>
  have hi:=qE hE hi;generalize hx:cq e x=v at h;cases v with
  |agg cs=>
   obtain ⟨j',rfl,_,h2,h⟩:=xu h;have h1:ad1 j' n=aeS:=by simp;omega
   obtain ⟨v,hv,h⟩:=bU h;obtain ⟨q,hq,hr⟩:=We hE hx;obtain ⟨p,hp,hpr⟩:=yl hr hv;exact ji.val hS h (by simp only [bO,hi,ma,h1,hq,hp];rfl) hpr
  |_=>cases h
 |_=>cases h
theorem Y0 (hE:eQ s e pe) (hS:cX s ps) {x i:gR} (h:rU e s z (.Pz x i) k ρ w=aeP y):ji s ps (bO pe ps z (.Pz x i)) k ρ w y:=by
 simp [rU] at h;generalize hi:cq e i=vi at h;cases vi with
 |int ki j=>
  have hi:=qE hE hi;generalize hx:cq e x=v at h;cases v with
  |str t=>
   obtain ⟨b,hb,h⟩:=dd h;have hx:=We hE hx;cases j with
   |negSucc _=>cases hb
   |ofNat m=>simp [aeo,aaE] at hb;obtain ⟨c,hc,rfl⟩:=hb;exact ji.val hS h (by simp [bO,hi,ma,show x.ev pe=_ from hx,hc]) rfl
  |_=>cases h
 |_=>cases h
theorem Y1 (hE:eQ s e pe) (hS:cX s ps) {agg:Option Nat} {p:gR} (h:rU e s z (.load agg p) k ρ w=aeP y):ji s ps (bO pe ps z (.load agg p)) k ρ w y:=by
 simp [rU] at h;have hx:=eK hE p;unfold aeq at h;generalize cq e p=v at h hx;cases v with
 |bp t n off=>
  simp [cJ] at h;generalize cO:s[t]? =b at h;cases b with
  |none=>cases h
  |some b=>
   cases b with
   |box cs=>obtain ⟨v,hv,h⟩:=bU h;obtain ⟨q,h1,h2⟩:=hS.box cO;obtain ⟨u,h3,h4⟩:=yl h2 hv;refine ji.rd hS h ?_ h4;show tI ps agg (p.ev pe)=_;rw [hx];simp only [tI,h1,h3];rfl
   |_=>cases h
 |pa t r i a off=>
  simp [cJ] at h;generalize cO:s[t]? =b at h;cases b with
  |none=>cases h
  |some b=>
   cases b with
   |arr q l=>
    obtain ⟨v,hv,hk⟩:=bU h;obtain ⟨hx,dH⟩:=hx;obtain ⟨rfl,hg⟩:=dH.inv cO;obtain ⟨u,h3,h4⟩:=yl (MB r a) hv;obtain ⟨m,rfl,hm⟩:=q8 hg;refine ji.rd hS hk ?_ h4;show tI ps agg (p.ev pe)=_;rw [hx];have Fx:(l.map (RT.pv r))[m]? =aeP (RT.pv r a):=by simp [hm]
    have e1:(abv m).toNat=m:=rfl;simp only [tI,hS.arr cO,e1,Fx,h3];rfl
   |_=>cases h
 |pb t i off=>
  simp [cJ] at h;generalize cO:s[t]? =b at h;cases b with
  |none=>cases h
  |some b=>
   cases b with
   |arr r l=>
    obtain ⟨a,ha,h⟩:=dd h;obtain ⟨v,hv,hk⟩:=bU h;obtain ⟨e',hx,dH⟩:=hx;obtain ⟨u,h3,h4⟩:=yl (MB r a) hv;obtain ⟨m,rfl,hm⟩:=q8 ha;refine ji.rd hS hk ?_ h4;show tI ps agg (p.ev pe)=_;rw [hx];have Fx:(l.map (RT.pv r))[m]? =aeP (RT.pv r a):=by simp [hm]
    have e1:(abv m).toNat=m:=rfl;simp only [tI,hS.arr cO,e1,Fx,h3];rfl
   |_=>cases h
 |bR cs off=>obtain ⟨v,hv,h⟩:=bU h;obtain ⟨q,hq,hr⟩:=hx;obtain ⟨u,h3,h4⟩:=yl hr hv;refine ji.val hS h ?_ h4;show tI ps agg (p.ev pe)=_;rw [hq];simp only [tI,h3];rfl
 |_=>cases h
theorem Oh (hS:cX s ps) {t:Nat} {r:List PT} {l:List (RT r)} (cO:s[t]? =aeP (.arr r l)) {i:Int} {b:RT r} {rd:List Nat}:
 Good s ps {v:= .undef,wr:=[(t,.arr r (cA l i b))],rd} {v:= .undef,wr:=[(t,.arr (aeL r) ((l.map (RT.pv r)).set i.toNat (RT.pv r b)))],rd}:=
 Good.YS hS cO (.inl ⟨_,rfl,by simp⟩) (by show _=_;simp [cA,])
theorem Wi (hE:eQ s e pe) (hS:cX s ps) {sz:Nat} {p x:gR} (h:rU e s z (.store sz p x) k ρ w=aeP y):ji s ps (bO pe ps z (.store sz p x)) k ρ w y:=by
 simp [rU] at h;have hx:=eK hE p;have hv:=eK hE x;unfold YE at h;generalize cq e p=v at h hx;generalize cq e x=u at h hv;cases v with
 |bp t n off=>
  simp [cJ] at h;generalize cO:s[t]? =b at h;cases b with
  |none=>cases h
  |some b=>
   cases b with
   |box cs=>
    obtain ⟨w',hw,h⟩:=bU h;obtain ⟨hc,h⟩:=de h;obtain ⟨q,h1,h2⟩:=hv.stored hw;obtain ⟨b,h3,h4⟩:=hS.box cO;have yX:=Fr.dg (ts:=[t]) (Fr.set (b:= .box (wE off w' cs)) cO (.inl ⟨_,rfl⟩));refine ⟨_,_,?_,Good.YS hS cO (.inl ⟨_,rfl⟩) ⟨_,rfl,RL.fr yX (Ds h2 h4)⟩,h⟩
    show xd ps z sz (x.ev pe) (p.ev pe)=_
    rw [hx];simp [xd,h3,h1,h2.qA,h4.qA];simp_all
   |_=>cases h
 |pa t r i a off=>
  simp [cJ] at h;generalize cO:s[t]? =b at h;cases b with
  |none=>cases h
  |some b=>
   cases b with
   |arr q l=>
    obtain ⟨hc,h⟩:=de h;obtain ⟨a',LN,hk⟩:=bU h;obtain ⟨hx,dH⟩:=hx;obtain ⟨rfl,hg⟩:=dH.inv cO;obtain ⟨m,rfl,hm⟩:=q8 hg;refine ⟨_,_,?_,Oh hS cO,hk⟩;show xd ps z sz (x.ev pe) (p.ev pe)=_;rw [hx];have Fx:(l.map (RT.pv r))[m]? =aeP (RT.pv r a):=by simp [hm]
    have e1:(abv m).toNat=m:=rfl;simp only [If,] at hc;obtain ⟨⟨c1,c2⟩,c3⟩:=hc;have hj:u≠ .jM:=by
     intro e;subst e;have:=RT.uK LN;have hq:=congrArg (fun l=>l[off]?) this;have p9:=ab3 c2;have wb:sz=1:=by have:=EQ c1;simpa [SV.cells] using this.symm
     have iz:off<(aeL r):=by omega
     have Me:off<(RT.sv r a).length:=by rw [RT.Og];exact iz
     simp only [wE,SV.cells] at hq;simp [abw,ad9 (ae7 Me),aez,] at hq;have: ∀(r:List PT) (b:RT r) (n:Nat),(RT.sv r b)[n]?≠aeP .jM:=by
      intro r
      induction r with
      |nil=>intro b n h;simp [RT.sv] at h
      |cons p rest ih=>
       intro b n;cases rest with
       |nil=>cases n<;>cases p<;>simp [RT.sv,PT.sv]
       |cons p2 ajk=>cases n with
        |zero=>cases p<;>simp [RT.sv,PT.sv]
        |succ n=>simpa [RT.sv] using ih b.2 n
     exact this r a' off hq.symm
    have J2:=hv.cells hj;have zB:=RT.uK LN;have h5:RL s (RT.sv r a') (vQ off (x.ev pe).cells (RT.pv r a)):=by rw [<- zB];exact Ds J2 (MB r a)
    have h6:=Dr r a' h5;have SJ:(x.ev pe).cW=aeP (x.ev pe).cells:=by unfold PV.cW;rw [AC ?_];have tF:=RT.plain r a';rw [<- h6] at tF;unfold vQ at tF;simp only [aet,If] at tF;exact tF.1.2
    simp only [xd,hS.arr cO,e1,Fx,SJ,J2.qA,RT.Cr]
    grind
   |_=>cases h
 |pb t i off=>
  simp [cJ] at h;generalize cO:s[t]? =b at h;cases b with
  |none=>cases h
  |some b=>
   cases b with
   |arr r l=>
    obtain ⟨hc,h⟩:=de h;obtain ⟨e',hx,dH⟩:=hx;have D1:=dH.inv cO;rw [Option.isSome_iff_exists] at D1;obtain ⟨a0,hg⟩:=D1;obtain ⟨m,rfl,hm⟩:=q8 hg;have Fx:(l.map (RT.pv r))[m]? =aeP (RT.pv r a0):=by simp [hm]
    have e1:(abv m).toNat=m:=rfl;simp only [If,] at hc;obtain ⟨⟨c1,c2⟩,c3⟩:=hc;cases wb:ab4 sz (aeL r) with
    |true=>
     rw [wb] at h;obtain ⟨a',LN,hk⟩:=bU h;obtain ⟨hp,hl⟩:=hv.ofRow LN;have VK:=EQ wb;have GN:off=0:=by have:=ab3 c2;omega
     subst GN;refine ⟨_,_,?_,Oh hS cO,hk⟩;show xd ps z sz (x.ev pe) (p.ev pe)=_;rw [hx];simp only [xd,hS.arr cO,e1,Fx,hp,RT.Cr];rw [AC (by grind)];have:vQ 0 (RT.pv r a') (RT.pv r a0)=RT.pv r a':=by
      unfold vQ
      grind [RT.Cr,List.drop_of_length_le]
     rw [this]
    |false=>
     rw [wb] at h;obtain ⟨a,ha,h⟩:=dd h;obtain ⟨a',LN,hk⟩:=bU h;rw [hg] at ha;injection ha with ha;subst ha;refine ⟨_,_,?_,Oh hS cO,hk⟩;show xd ps z sz (x.ev pe) (p.ev pe)=_;rw [hx];have hj:u≠ .jM:=by
      intro e;subst e;have:=RT.uK LN;have hq:=congrArg (fun l=>l[off]?) this;have p9:=ab3 c2;have wb:sz=1:=by have:=EQ c1;simpa [SV.cells] using this.symm
      have iz:off<(aeL r):=by omega
      have Me:off<(RT.sv r a0).length:=by rw [RT.Og];exact iz
      simp only [wE,SV.cells] at hq;simp [abw,ad9 (ae7 Me),aez,] at hq;have: ∀(r:List PT) (b:RT r) (n:Nat),(RT.sv r b)[n]?≠aeP .jM:=by
       intro r
       induction r with
       |nil=>intro b n h;simp [RT.sv] at h
       |cons p rest ih=>
        intro b n;cases rest with
        |nil=>cases n<;>cases p<;>simp [RT.sv,PT.sv]
        |cons p2 ajk=>cases n with
         |zero=>cases p<;>simp [RT.sv,PT.sv]
         |succ n=>simpa [RT.sv] using ih b.2 n
      exact this r a' off hq.symm
     have J2:=hv.cells hj;have zB:=RT.uK LN;have h5:RL s (RT.sv r a') (vQ off (x.ev pe).cells (RT.pv r a0)):=by rw [<- zB];exact Ds J2 (MB r a0)
     have h6:=Dr r a' h5;have SJ:(x.ev pe).cW=aeP (x.ev pe).cells:=by unfold PV.cW;rw [AC ?_];have tF:=RT.plain r a';rw [<- h6] at tF;unfold vQ at tF;simp only [aet,If] at tF;exact tF.1.2
     simp only [xd,hS.arr cO,e1,Fx,SJ,J2.qA,RT.Cr]
     grind
   |_=>cases h
 |_=>cases h
end
end Go.Vm
/- Operation by operation, third part: slices, new blocks, append, sets; all of them together. -/
namespace Go.Vm
section
variable {R' ρ : Type} {w : R' -> ρ} {y : ρ} {s : List SB} {ps : cU} {e : SE} {pe : Env} {z : List Nat} {k : iC -> jc R'}
def J3 (pe:Env) (o:Option gR):Option (Option Nat):=match o with|none=>aeP aeR|some a=>(ma (a.ev pe)).map aeP
theorem zO (hE:eQ s e pe) {o:Option gR} {d a:Int} {n:Nat} (h:G2 e d o=aeP a) (hd:d=abv n) (h0:0<=a): ∃b,J3 pe o=aeP b/\b.getD n=a.toNat:=by
 cases o with
 |none=>injection h with h;subst h hd;exact ⟨aeR,rfl,rfl⟩
 |some x=>
  simp [G2] at h;split at h
  · rename_i ka m hx
    injection h with h;subst h;obtain ⟨b,rfl⟩:=WF h0;refine ⟨aeP b,?_,rfl⟩;simp [J3,qE hE hx];rfl
  cases h
theorem EJ {aO:Nat} {x:gR} {lo hi mx:Option gR} {l h m:Option Nat} {v:PV} (he:zt aO (x.ev pe)=aeS) (h1:J3 pe lo=aeP l) (h2:J3 pe hi=aeP h) (h3:J3 pe mx=aeP m) (hv:vR (x.ev pe) l h m=aeP v):
 bO pe ps z (.Vu aO x lo hi mx)=aeP {v:=v}:=by
 have e:bO pe ps z (.Vu aO x lo hi mx)=(match J3 pe lo,J3 pe hi,J3 pe mx with|some l,aeP h,aeP m=>(vR (x.ev pe) l h m).map fun v=>({v}:tz)|_,_,_=>aeR):=by simp [bO,he,];rfl
 grind
theorem J4 {α:Type} {l r:List α} {lo hi:Int} (h:gW l lo hi=aeP r): ∃a b:Nat,lo=abv a/\hi=abv b/\a<=b/\b<=aeL l/\r=(l.drop a).take (b-a):=by
 unfold gW at h;split at h
 · rename_i hc
   obtain ⟨a,rfl⟩:=WF hc.1;obtain ⟨b,rfl⟩:=WF (abJ hc.1 hc.2.1);injection h with h;exact ⟨a,b,rfl,rfl,by omega,by omega,by rw [<- h];simp⟩
 cases h
theorem Oi (hE:eQ s e pe) (hS:cX s ps) {aO t off len cap:Nat} {ex:Bool} {x:gR} {lo hi mx:Option gR} (hx:x.ev pe= .own t aO off len cap ex) (dH:D9 s t aO) (h:V' e t off len cap ex lo hi mx k ρ w=aeP y):
 ji s ps (bO pe ps z (.Vu aO x lo hi mx)) k ρ w y:=by
 obtain ⟨a,ha,h⟩:=bU h;obtain ⟨b,hb,h⟩:=bU h;have he:zt aO (x.ev pe)=aeS:=by rw [hx];simp [zt]
 cases mx with
 |none=>
  obtain ⟨hc,h⟩:=kx h;simp [If,decide_eq_true_eq] at hc;obtain ⟨⟨c1,c2⟩,c3⟩:=hc;obtain ⟨l,h1,h2⟩:=zO hE ha rfl c1;obtain ⟨u,h3,h4⟩:=zO hE hb rfl (abJ c1 c2);refine ji.val hS h (EJ he h1 h3 rfl ?_) ⟨aO,rfl,dH⟩;rw [hx];have c4:(aa9 a.toNat b.toNat&&aa9 b.toNat cap)=aeS:=by have c3':b<=(cap:Int):=c3;simp;omega
  simp [vR,h2,h4,c4,if_true]
 |some mo=>
  dsimp only at h;generalize hm:cq e mo=vm at h;cases vm with
  |int km c=>
   obtain ⟨hc,h⟩:=kx h;simp [If,decide_eq_true_eq] at hc;obtain ⟨⟨⟨c1,c2⟩,c3⟩,c4⟩:=hc;obtain ⟨l,h1,h2⟩:=zO hE ha rfl c1;obtain ⟨u,h3,h4⟩:=zO hE hb rfl (abJ c1 c2);have LL:=abJ (abJ c1 c2) c3;obtain ⟨c,rfl⟩:=WF LL;refine ji.val hS h (EJ he h1 h3 (by simp only [J3,qE hE hm];rfl) ?_) ⟨aO,rfl,dH⟩;rw [hx];have c5:(aa9 a.toNat b.toNat&&aa9 b.toNat c&&aa9 c cap)=aeS:=by have c4':(c:Int)<=(cap:Int):=c4;simp;omega
   simp only [vR,h2,h4,c5,];rfl
  |_=>cases h
theorem aci (hE:eQ s e pe) (hS:cX s ps) {aO:Nat} {x:gR} {lo hi mx:Option gR} (h:rU e s z (.Vu aO x lo hi mx) k ρ w=aeP y):ji s ps (bO pe ps z (.Vu aO x lo hi mx)) k ρ w y:=by
 simp [rU] at h;have hx:=eK hE x;unfold aje at h;generalize cq e x=v at h hx;cases v with
 |sl r l=>
  cases mx with
  |some _=>cases h
  |none=>
   obtain ⟨he,h⟩:=de h;have he:=EQ he;obtain ⟨a,ha,h⟩:=bU h;obtain ⟨b,hb,h⟩:=bU h;obtain ⟨m,hm,hk⟩:=dd h;obtain ⟨n1,n2,rfl,rfl,c1,c2,rfl⟩:=J4 hm;obtain ⟨u1,h1,h2⟩:=zO hE ha rfl (by simp);obtain ⟨u2,h3,h4⟩:=zO hE hb rfl (by simp);have hx':=hx;subst he;refine ji.val hS hk (EJ (by rw [hx'];simp [zt]) h1 h3 rfl ?_) rfl;rw [hx'];have h2':u1.getD 0=n1:=by rw [h2];rfl
   have h4':u2.getD (l.map (RT.pv r)).length=n2:=by grind
   have c3:(aa9 n1 n2&&aa9 n2 (l.map (RT.pv r)).length)=aeS:=by simp [c1,c2]
   simp only [vR,h2',h4',c3,if_true,Bool.false_and,abn,ad6]
 |own t ex=>
  simp [cJ] at h;generalize cO:s[t]? =b at h;cases b with
  |none=>cases h
  |some b=>
   cases b with
   |arr r l=>
    obtain ⟨he,hk⟩:=de h;have he:=EQ he;obtain ⟨e',n',hx,dH⟩:=hx;obtain ⟨rfl,rfl⟩:=dH.inv cO;subst he;have Jq:D9 s t (aeL r):= .inl ⟨r,l,cO,rfl⟩;have gen:V' e t 0 (aeL l) (aeL l) ex lo hi mx k ρ w=aeP y->ji s ps (bO pe ps z (.Vu (aeL r) x lo hi mx)) k ρ w y:=fun h=>Oi hE hS hx Jq h
    have he:zt (aeL r) (x.ev pe)=aeS:=by rw [hx];simp [zt]
    cases mx with
    |some m=>simp_all
    |none=>
     cases lo with
     |some _=>grind
     |none=>
      cases hi with
      |none=>refine ji.val hS hk (EJ he rfl rfl rfl ?_) ⟨aeL r,aeL l,rfl,dH⟩;rw [hx];simp [vR]
      |some ho=>
       dsimp only at hk;generalize hh:cq e ho=vh at hk;cases vh with
       |int kh b=>
        obtain ⟨m,hm,hk⟩:=dd hk;obtain ⟨n1,n2,h0,rfl,c1,c2,rfl⟩:=J4 hm;refine ji.val hS hk (EJ he rfl (by simp only [J3,qE hE hh];rfl) rfl ?_) ⟨aeL r,rfl,Jq⟩;rw [hx];have c3:(aa9 0 n2&&aa9 n2 (aeL l))=aeS:=by simp [c2]
        simp only [vR,ad8,aea,c3,];rfl
       |_=>cases hk
   |_=>cases h
 |pre t len cap ex=>
  simp [cJ] at h;generalize cO:s[t]? =b at h;cases b with
  |none=>cases h
  |some b=>
   cases b with
   |arr r l=>
    obtain ⟨he,hk⟩:=de h;have he:=EQ he;obtain ⟨e',hx,dH⟩:=hx;have:=dH.inv cO;subst this;subst he;have gen:V' e t 0 len cap ex lo hi mx k ρ w=aeP y->ji s ps (bO pe ps z (.Vu (aeL r) x lo hi mx)) k ρ w y:=fun h=>Oi hE hS hx dH h
    have he:zt (aeL r) (x.ev pe)=aeS:=by rw [hx];simp [zt]
    cases mx with
    |some m=>simp_all
    |none=>
     cases lo with
     |some _=>grind
     |none=>
      cases hi with
      |none=>
       obtain ⟨hlc,hk⟩:=kx hk;refine ji.val hS hk (EJ he rfl rfl rfl ?_) ⟨aeL r,rfl,dH⟩;rw [hx];have c3:(aa9 0 len&&aa9 len cap)=aeS:=by simp [hlc]
       simp only [vR,ad8,c3,];simp
      |some ho=>
       dsimp only at hk;generalize hh:cq e ho=vh at hk;cases vh with
       |int kh b=>
        obtain ⟨hc,hk⟩:=kx hk;simp [If,decide_eq_true_eq] at hc;obtain ⟨c1,c2⟩:=hc;obtain ⟨b,rfl⟩:=WF c1;refine ji.val hS hk (EJ he rfl (by simp only [J3,qE hE hh];rfl) rfl ?_) ⟨aeL r,rfl,dH⟩;rw [hx];have c3:(aa9 0 b&&aa9 b cap)=aeS:=by simp_all
        simp only [vR,ad8,aea,c3,];rfl
       |_=>cases hk
   |_=>cases h
 |part t off len cap ex=>
  simp [cJ] at h;generalize cO:s[t]? =b at h;cases b with
  |none=>cases h
  |some b=>
   cases b with
   |arr r l=>
    obtain ⟨he,hk⟩:=de h;have he:=EQ he;obtain ⟨e',hx,dH⟩:=hx;have:=dH.inv cO
    grind [Oi]
   |_=>cases h
 |_=>cases h
theorem zP {b:SB}:(s++[b])[aeL s]? =aeP b:=by simp
theorem bT: ∀{v:PV} {p:PT},bm v=aeP p->p.pv p.zero=v
 | .int k n,p,h=>by
  simp [bm] at h;split at h
  · injection h with h;subst h;rfl
  cases h
 | .bool b,p,h=>by
  simp [bm] at h;split at h
  · injection h with h;subst h;rfl
  cases h
 | .undef,_,h| .na,_,h| .str _,_,h| .agg _,_,h| .cV _,_,h| .sl _ _ _,_,h| .own _ _ _ _ _ _,_,h| .ptr _ _ _ _,_,h| .bR _ _,_,h| .mp _,_,h| .fx _ _ _,_,h| .eW,_,h=>by cases h
theorem FQ : ∀ {l : List PV} {r : List PT}, JP l = aeP r -> RT.pv r (RT.zero r) = l
  | [], r, h => by injection h with h; subst h; rfl
  | v :: vs, r, h => by
    simp [JP] at h
    split at h
    · rename_i p q h1 h2
      injection h with h; subst h
      have e1 := bT h1
      have e2 := FQ h2
      cases q with
      | nil =>
        have : vs = [] := by
          cases vs with
          | nil => rfl
          | cons a b => simp only [RT.pv] at e2; cases e2
        subst this
        show [p.pv p.zero] = _
        rw [e1]
      | cons p2 q2 =>
        show p.pv p.zero :: RT.pv (p2 :: q2) (RT.zero (p2 :: q2)) = _
        rw [e1, e2]
    cases h
theorem acj (hE:eQ s e pe) (hS:cX s ps) {aO:Nat} {zero:Row} {l c:gR} (h:rU e s z (.mks aO zero l c) k ρ w=aeP y):ji s ps (bO pe ps z (.mks aO zero l c)) k ρ w y:=by
 simp [rU] at h;generalize hl:cq e l=vl at h;cases vl with
 |int kl n=>
  generalize hc:cq e c=vc at h;cases vc with
  |int kc m=>
   obtain ⟨hnm,h1⟩:=kx h;obtain ⟨r,hr,h2⟩:=bU h1;obtain ⟨he,h3⟩:=de h2;obtain ⟨x,hx,hk⟩:=dd h3;have hnm:n=m:=by simpa using hnm
   subst hnm;have he:=EQ he;subst he;unfold qd at hx;split at hx
   · rename_i Pn
     injection hx with hx;subst hx;obtain ⟨a,rfl⟩:=WF Pn.1;have h1:(aa9 a a&&aa9 a gU)=aeS:=by simp [gU];omega
     refine ⟨_,_,?_,Good.new hS (q:= .arr (aeL r) (abh a zero)) (p:= .own (aeL s) (aeL r) 0 a a aeS) ?_ ?_,hk⟩
     · have e1:ma (.int kl (a:Int))=aeP a:=rfl
       have e2:ma (.int kc (a:Int))=aeP a:=rfl;simp only [bO,qE hE hl,qE hE hc,e1,e2];rw [AC h1,hS.len]
     · show _=_
       simp [FQ hr]
     exact ⟨aeL r,a,rfl,.inl ⟨r,_,zP,rfl,by simp⟩⟩
   cases hx
  |_=>cases h
 |_=>cases h
def Cs {α:Type}:List α->List (Nat×α)->List α
 |l,[]=>l
 |l,(i,a)::r=>Cs (l.set i a) r
theorem J5 {α:Type}: ∀(q:List (Nat×α)) (l:List α) (i:Nat),(Cs l q)[i]? =(l[i]?).map fun z=>rowAt i z q
 | [],l,i=>by simp [Cs,rowAt]
 |(j,a)::q,l,i=>by
  simp [Cs,rowAt];rw [J5 q (l.set j a) i,ab1]
  by_cases hji:j=i
  · subst hji
    cases hl:l[j]? with
    |none=>
     have: ¬j<(aeL l):=by intro h;rw [PP h] at hl;cases hl
     simp [this]
    |some z=>have:=(IR.1 hl).1;simp [this]
  grind [EQ]
theorem Qq {α:Type} (f:Nat->α): ∀(n i j:Nat),(Qj f i n)[j]? =if j<n then aeP (f (i+j)) else aeR
 |0,i,j=>by simp [Qj]
 |n+1,i,0=>by simp [Qj]
 |n+1,i,j+1=>by simp only [Qj,List.getElem?_cons_succ];rw [Qq f n (i+1) j,show i+1+j=i+(j+1) by omega];simp
theorem J6 {α:Type} (z:α) (n:Nat) (q:List (Nat×α)):Cs (abh n z) q=Qj (fun i=>rowAt i z q) 0 n:=by
 apply ad3
 grind [J5,Qq]
theorem J7 (hE:eQ s e pe) {r:List PT} {n:Nat}: ∀{parts:List (Nat×gR)} {q:List (Nat×RT r)} {l:List (RT r)},Ur r e n parts=aeP q->aeL l=n->
 vg (parts.map fun p=>(p.1,p.2.ev pe)) (l.map (RT.pv r)) (aeL r)=aeP ((Cs l q).map (RT.pv r))
 | [],q,l,h,hl=>by injection h with h;subst h;rfl
 |p::parts,q,l,h,hl=>by
  simp [Ur] at h;split at h
  · rename_i a q' h1 h2
    cases hb:ad1 p.1 n with
    |false=>grind
    |true=>rw [hb] at h;injection h with h;subst h;have hp:=((eK hE p.2).ofRow h1).1;simp [abf,vg,hp,RT.Cr,abb,hl,hb,acl,];rw [<- aeG];exact J7 hE h2 (by simp [hl])
  cases h
theorem Wj (hE:eQ s e pe) (hS:cX s ps) {aO n:Nat} {zero:Row} {parts:List (Nat×gR)} (h:rU e s z (.Fj aO n zero parts) k ρ w=aeP y):ji s ps (bO pe ps z (.Fj aO n zero parts)) k ρ w y:=by
 obtain ⟨r,hr,h1⟩:=bU h;obtain ⟨he,h2⟩:=de h1;obtain ⟨q,hq,hk⟩:=bU h2;have he:=EQ he;subst he;have hf:=J7 hE (l:=abh n (RT.zero r)) hq (by simp);rw [J6] at hf;have hz:(abh n (RT.zero r)).map (RT.pv r)=abh n zero:=by simp [FQ hr]
 rw [hz] at hf;refine ⟨_,_,?_,Good.new hS (b:= .arr r (Qj (fun i=>rowAt i (RT.zero r) q) 0 n)) (p:= .own (aeL s) (aeL r) 0 n n aeS) rfl ?_,hk⟩
 · simp only [bO,hf,hS.len]
   rfl
 refine ⟨aeL r,n,rfl,.inl ⟨r,_,zP,rfl,?_⟩⟩
 rw [<- J6];have: ∀(q:List (Nat×RT r)) (l:List (RT r)),(Cs l q).length=(aeL l):=by
  intro q
  induction q with
  |nil=>intro l;rfl
  |cons p q ih=>intro l;simp [Cs,ih]
 rw [this];simp
theorem UF: ∀{cs:List SV} {q:List PV} {l:List Int},RL s cs q->Us cs=aeP l->q=l.map (.int .i64)
 | [],q,l,h,hi=>by injection hi with hi;subst hi;exact h
 |x::xs,q,l,h,hi=>by
  obtain ⟨p,q,rfl,h1,h2⟩:=h.cons_inv;simp [Us] at hi;split at hi
  · rename_i n l' hx
    injection hi with hi;subst hi;rw [h1,UF h2 hx];rfl
  cases hi
theorem Y2 {v:SV} {p:PV} {n:Option Nat} {l:List Int} (h:R s v p) (hk:abX n v=aeP l):p=xW l/\mC n (xW l)=aeS/\(xW l).cW=aeP (xW l).cells/\(xW l).cells=l.map (.int .i64)/\(n=aeR->aeL l=1)/\(∀m,n=aeP m->aeL l=m/\m≠1):=by
 cases n with
 |none=>
  cases v with
  |int kk a=>
   cases kk with
   |i64=>injection hk with hk;subst hk;exact ⟨h,rfl,rfl,rfl,fun _=>rfl,fun m hm=>by cases hm⟩
   |_=>cases hk
  |_=>cases hk
 |some m=>
  cases v with
  |agg cs=>
   simp [abX] at hk;cases hc:(ab4 (aeL cs) m&&!Nat.beq m 1) with
   |false=>grind
   |true=>
    rw [hc] at hk;simp [If,adY,] at hc;obtain ⟨c1,c2⟩:=hc;obtain ⟨q,rfl,hq⟩:=h;have XK:=UF hq hk;have eT:(aeL l)=m:=by have:=hq.qA;grind
    have hm1:m≠1:=by intro e;subst e;cases c2
    have XX:xW l= .agg (l.map (.int .i64)):=by
     unfold xW
     grind
    refine ⟨by rw [XX,XK],by rw [XX];simp [mC,eT],?_,by rw [XX];rfl,(fun h=>by cases h),fun m' hm=>by grind⟩;rw [XX];unfold PV.cW;simp [PV.cells,PV.plain]
  |_=>cases hk
theorem AJ: ∀(a b:List Int),aeL a=aeL b->dP (a.map (.int .i64)) (b.map (.int .i64))=aeP (a==b)
 | [],[],_=>rfl
 |x::a,y::b,h=>by
  have ih:=AJ a b (by simpa using h);simp [abf,dP,xb,Qo,];cases hxy:x==y with
  |true=>simp_all
  |false=>simp_all
 | [],_::_,h=>by simp at h
 |_::_,[],h=>by simp at h
theorem G7 {n : Option Nat} {a : List Int} (ha : (xW a).cells = a.map (.int .i64)) (hn : (n = aeR -> (aeL a) = 1) /\ (∀ m, n = aeP m -> (aeL a) = m /\ m ≠ 1)) : ∀ (l : List (List Int)) (i : Nat), (∀ r, gT n (xW a) (l.map G6) i = aeP r -> (match r with | none => IF l a = aeT | some j => i <= j /\ IF l a = aeS /\ l[j - i]? = aeP a))
  | [], i, r, h => by
    simp [aeH, gT, abc] at h
    subst h; rfl
  | b :: l, i, r, h => by
    simp only [abf, G6, gT] at h
    split at h
    · rename_i hk
      have hb : (xW b).cells = b.map (.int .i64) /\ (aeL a) = (aeL b) := by
        cases n with
        | none =>
          have hl := hn.1 rfl
          unfold xW at hk ⊢
          split at hk
          · exact ⟨rfl, by simpa using hl⟩
          cases hk
        | some m =>
          obtain ⟨hl, hm⟩ := hn.2 m rfl
          unfold xW at hk ⊢
          split at hk
          · cases hk
          simp [mC, abb, adY] at hk
          exact ⟨rfl, by omega⟩
      rw [ha, hb.1, AJ a b hb.2] at h
      cases Po : a == b with
      | true =>
        rw [Po] at h
        injection h with h; subst h
        have : a = b := by simpa using Po
        subst this
        exact ⟨ad2 _, by simp [IF], by simp⟩
      | false =>
        rw [Po] at h
        have := G7 ha hn l (i + 1) r h
        cases r with
        | none => simpa [IF, Po] using this
        | some j =>
          obtain ⟨h1, h2, h3⟩ := this
          refine ⟨by omega, by simp [IF] at h2; simp [IF, h2], ?_⟩
          grind
    cases h
theorem FT {n:Option Nat} {a:List Int} (ha:(xW a).cells=a.map (.int .i64)) (hn:(n=aeR->aeL a=1)/\(∀m,n=aeP m->aeL a=m/\m≠1)) {l:List (List Int)} (hl:l.all (fun b=>mC n (xW b))=aeS): ∀i,∃r,gT n (xW a) (l.map G6) i=aeP r:=by
 induction l with
 |nil=>intro i;exact ⟨aeR,rfl⟩
 |cons b l ih=>
  intro i;simp only [List.all_cons,If] at hl;obtain ⟨r,hr⟩:=ih hl.2 (i+1);simp [abf,G6,gT,];have hb:(xW b).cells=b.map (.int .i64)/\aeL a=(aeL b):=by
   have hk:=hl.1;cases n with
   |none=>
    have qC:=hn.1 rfl;unfold xW at hk ⊢;split at hk
    · exact ⟨rfl,by simpa using qC⟩
    cases hk
   |some m=>
    obtain ⟨qC,hm⟩:=hn.2 m rfl;unfold xW at hk ⊢;split at hk
    · cases hk
    simp [mC,abb,adY] at hk
    exact ⟨rfl,by omega⟩
  grind [AJ]
theorem H6 {n:Option Nat} {a:List Int} (hn:(n=aeR->aeL a=1)/\(∀m,n=aeP m->aeL a=m/\m≠1)) {l:List (List Int)} (hl: ∀b∈l,aeL b=aeL a):l.all (fun b=>mC n (xW b))=aeS:=by
 rw [abk];intro b hb;have eT:=hl b hb;cases n with
 |none=>
  have h1:=hn.1 rfl;rw [h1] at eT
  match b,eT with
  | [x],_=>rfl
 |some m=>
  obtain ⟨h1,h2⟩:=hn.2 m rfl;unfold xW;split
  · grind
  simp [mC];omega
theorem FU {a:List Int} {l:List (List Int)} (h:sj a l=aeS): ∀b∈l,aeL b=(aeL a):=by intro b hb;exact EQ (abk.1 h b hb)
theorem PT.ajl {s:List SB} {p:PT} {v:SV} {q:PV} {a:p.T} (h:R s v q) (ho:p.of v=aeP a):q=p.pv a:=by
 cases p with
 |i k=>
  cases v with
  |int l n=>
   simp [PT.of] at ho;cases hk:gM l k with
   |false=>grind
   |true=>rw [hk] at ho;obtain rfl:=gx.1 hk;injection ho with ho;subst ho;exact h
  |_=>cases ho
 |b=>
  cases v with
  |bool x=>injection ho with ho;subst ho;exact h
  |_=>cases ho
theorem J8 {β:Type} (g:Int×β->PV×PV) (hg: ∀x,(g x).1= .int .i64 x.1) (k:Int): ∀(l:List (Int×β)) (i:Nat),
 (∃j x,gT aeR (.int .i64 k) (l.map g) i=aeP (aeP (i+j))/\l[j]? =aeP x/\(∀z,jR z l k=x.2)/\ ∀a,mf l k a=l.set j (k,a))\/
 (gT aeR (.int .i64 k) (l.map g) i=aeP aeR/\(∀z,jR z l k=z)/\ ∀a,mf l k a=l++[(k,a)])
 | [],i=> .inr ⟨rfl,fun _=>rfl,fun _=>rfl⟩
 |x::l,i=>by
  have hk:mC aeR (g x).1=aeS:=by rw [hg];rfl
  have he:dP (PV.int .i64 k).cells (g x).1.cells=aeP (k==x.1):=by
   rw [hg];show dP [.int .i64 k] [.int .i64 x.1]=_;simp [dP,xb,gM,]
   grind
  have hf:gT aeR (.int .i64 k) ((x::l).map g) i=(match aeP (k==x.1) with
   |some aeS=>aeP (aeP i)
   |some aeT=>gT aeR (.int .i64 k) (l.map g) (i+1)
   |none=>aeR):=by
   rw [abf];show (if mC aeR (g x).1 then _ else aeR)=_
   grind
  cases hb:k==x.1 with
  |true=>rw [hb] at hf;exact .inl ⟨0,x,hf,rfl,fun z=>by simp [jR,hb,v6],fun a=>by simp [mf,hb,v6,List.set_cons_zero]⟩
  |false=>
   rw [hb] at hf;rcases J8 g hg k l (i+1) with ⟨j,y,h1,h2,h3,h4⟩|⟨h1,h2,h3⟩
   · refine .inl ⟨j+1,y,?_,by simpa using h2,fun z=>?_,fun a=>?_⟩
     · grind
     · simp [jR,hb,ww,h3]
     simp [mf,hb,ww,h4,List.set_cons_succ]
   exact .inr ⟨hf.trans h1,fun z=>by simp [jR,hb,ww,h2],fun a=>by simp [mf,hb,ww,h3,aec]⟩
theorem J9 (p:PT) (k:Int) (l:List (RT [.i .i64,p])):
 (∃(j:Nat) (x:RT [.i .i64,p]),gT aeR (.int .i64 k) (l.map (J1 p)) 0=aeP (aeP j)/\l[j]? =aeP x/\(∀z,p.get z l k=x.2)/\ ∀a,p.put l k a=l.set j (k,a))\/
 (gT aeR (.int .i64 k) (l.map (J1 p)) 0=aeP aeR/\(∀z,p.get z l k=z)/\ ∀a,p.put l k a=l++[(k,a)]):=by
 cases p with
 |i d=>
  rcases J8 (J1 (.i d)) (fun _=>rfl) k l 0 with ⟨j,x,h1,h2,h3,h4⟩|h
  · exact .inl ⟨j,x,by grind,h2,h3,h4⟩
  exact .inr h
 |b=>
  rcases J8 (J1 .b) (fun _=>rfl) k l 0 with ⟨j,x,h1,h2,h3,h4⟩|h
  · exact .inl ⟨j,x,by grind,h2,h3,h4⟩
  exact .inr h
theorem PT.aog {s:List SB} (p:PT) (a:p.T):R s (p.sv a) (p.pv a):=by cases p<;>rfl
theorem PT.Qr (p:PT) (a:p.T):(p.pv a).cW=aeP [p.pv a]:=by cases p<;>rfl
theorem SK (hE:eQ s e pe) (hS:cX s ps) {n:Option Nat} {zero:PV} {ok:Bool} {m q:gR} (h:rU e s z (.lookup n zero ok m q) k ρ w=aeP y):ji s ps (bO pe ps z (.lookup n zero ok m q)) k ρ w y:=by
 simp [rU] at h;have hx:=eK hE m;generalize cq e m=v at h hx;cases v with
 |mp t=>
  simp [cJ] at h;generalize cO:s[t]? =b at h;cases b with
  |none=>cases h
  |some b=>
   cases b with
   |set l=>
    cases zero with
    |bool b=>
     cases b with
     |true=>cases h
     |false=>
      cases ok with
      |true=>cases h
      |false=>
       obtain ⟨a,ha,h1⟩:=bU h;obtain ⟨b,hb,hk⟩:=dd h1;obtain ⟨k1,k2,k3,k4,k5⟩:=Y2 (eK hE q) ha;unfold Qh at hb;cases Ap:sj a l with
       |false=>grind
       |true=>
        rw [Ap] at hb;injection hb with hb;subst hb;obtain ⟨r,hr⟩:=FT k4 k5 (H6 k5 (FU Ap)) 0;have hf:=G7 k4 k5 l 0 r hr;refine ji.rd hS hk ?_ rfl;show xY ps n (.bool aeT) aeT (m.ev pe) (q.ev pe)=_;rw [hx,k1];simp only [xY,hS.ajj cO,k2,hr];cases r with
        |none=>grind
        |some j=>
         obtain ⟨_,h2,h3⟩:=hf;have:(l.map G6)[j]? =aeP (G6 a):=by grind
         simp [this,h2,G6]
    |_=>cases h
   |nB p l=>
    cases n with
    |some _=>cases h
    |none=>
     cases ok with
     |true=>cases h
     |false=>
      have hq:=eK hE q;generalize cq e q=u at h hq;cases u with
      |int d a=>
       cases d with
       |i64=>
        obtain ⟨zv,hz,hk⟩:=bU h;have ajm:=PT.ajl (SH s zero) hz;refine ji.rd hS hk ?_ (PT.aog p _);show xY ps aeR zero aeT (m.ev pe) (q.ev pe)=_;rw [hx,hq];rcases J9 p a l with ⟨j,x,h1,h2,h3,_⟩|⟨h1,h2,_⟩
        · have h5:(l.map (J1 p))[j]? =aeP (J1 p x):=by simp [h2]
          simp [xY,hS.acg cO,mC,if_true,h1,h5,h3,J1,abi,if_false]
        simp [xY,hS.acg cO,mC,if_true,h1,h2,ajm,abi,if_false]
       |_=>cases h
      |_=>cases h
   |_=>cases h
 |_=>cases h
theorem Y3 (hE:eQ s e pe) (hS:cX s ps) {n:Option Nat} {m q x:gR} (h:rU e s z (.Nt n m q x) k ρ w=aeP y):ji s ps (bO pe ps z (.Nt n m q x)) k ρ w y:=by
 simp [rU] at h;have hx:=eK hE m;generalize cq e m=v at h hx;cases v with
 |mp t=>
  simp [cJ] at h;generalize cO:s[t]? =b at h;cases b with
  |none=>cases h
  |some b=>
   cases b with
   |set l=>
    obtain ⟨hz,h0⟩:=wY h;have hv:=eK hE x;generalize cq e x=u at h0 hv;cases u with
    |bool b=>
     cases b with
     |false=>cases h0
     |true=>
      obtain ⟨a,ha,h1⟩:=bU h0;obtain ⟨b,hb,hk⟩:=dd h1;obtain ⟨k1,k2,k3,k4,k5⟩:=Y2 (eK hE q) ha;unfold Qi at hb;cases Ap:sj a l with
      |false=>grind
      |true=>
       rw [Ap] at hb;injection hb with hb;subst hb;obtain ⟨r,hr⟩:=FT k4 k5 (H6 k5 (FU Ap)) 0;have hf:=G7 k4 k5 l 0 r hr;refine ⟨_,_,?_,Good.YS hS (b:= .set (V9 l a)) cO trivial rfl,hk⟩;show HJ ps z n (m.ev pe) (q.ev pe) (x.ev pe)=_;rw [hx,k1,hv];have p2:(PV.bool aeS).cW=aeP [.bool aeS]:=rfl;simp [HJ,hS.ajj cO,k2,hz,k3,p2,hr];cases r with
       |none=>simp [V9,hf,G6]
       |some j=>
        obtain ⟨_,h2,h3⟩:=hf;have h5:l[j]? =aeP a:=by simpa using h3
        have:(l.map G6).set j (xW a,.bool aeS)=l.map G6:=by
         apply ad3;intro i;rw [ab1];split
         · rename_i pX
           subst pX;have iz:=(IR.1 h5).1;have h6:=(IR.1 h5).2;simp [iz,h6,G6]
         rfl
        simp [V9,h2,this]
    |_=>cases h0
   |nB p l=>
    obtain ⟨hz,h0⟩:=wY h;cases n with
    |some _=>cases h0
    |none=>
     have hq:=eK hE q;generalize cq e q=u at h0 hq;cases u with
     |int d a=>
      cases d with
      |i64=>
       obtain ⟨xv,hxv,hk⟩:=bU h0;have Wk:=PT.ajl (eK hE x) hxv;refine ⟨_,_,?_,Good.YS hS (b:= .nB p (p.put l a xv)) cO trivial rfl,hk⟩;show HJ ps z aeR (m.ev pe) (q.ev pe) (x.ev pe)=_;rw [hx,hq,Wk];have p1:(PV.int .i64 a).cW=aeP [.int .i64 a]:=rfl;rcases J9 p a l with ⟨j,x,h1,_,_,h3⟩|⟨h1,_,h3⟩
       · simp [HJ,hS.acg cO,mC,hz,adW,abe,if_true,p1,PT.Qr,h1,h3,aeG,J1]
       simp [HJ,hS.acg cO,mC,hz,adW,abe,if_true,p1,PT.Qr,h1,h3,adc,abf,aeH,J1]
      |_=>cases h0
     |_=>cases h0
   |_=>cases h
 |_=>cases h
theorem D9.fr' {s s':List SB} {bad:List Nat} {t e:Nat} (h:D9 s t e) (hf:Fr bad s s'):D9 s' t e:=by
 rcases h with ⟨r,l,h1,h2⟩|h1|⟨cs,h1,h2⟩
 · rcases hf t _ h1 with ⟨l',k1,_,_⟩|k1
   · exact .inl ⟨r,l',k1,h2⟩
   exact .inr (.inl k1)
 · exact .inr (.inl (hf t _ h1))
 rcases hf t _ h1 with ⟨c2,k1⟩|k1
 · exact .inr (.inr ⟨c2,k1,h2⟩)
 exact .inr (.inl k1)
theorem EK {α:Type} {l r:List α} (h:cw l=aeP r):r=l/\aeL l<=1048576:=by
 unfold cw at h
 grind
theorem Ct {α:Type} {l m r:List α} (h:aX l m=aeP r):r=l++m/\aeL l+aeL m<=1048576:=by
 unfold aX at h
 grind
theorem yn: ∀(m l:List Row) (n:Nat),n+aeL m<=aeL l->ot n m l=gy l n m
 | [],l,n,h=>by simp [ot,gy]
 |a::m,l,n,h=>by
  simp [abg] at h;rw [ot,yn m (l.set n a) (n+1) (by simp;omega)];unfold gy;rw [List.take_set,List.drop_set];have hn:n<(aeL l):=by omega
  have:(l.take (n+1)).set n a=l.take n++[a]:=by rw [List.take_succ_eq_append_getElem hn,List.set_append_right _ _ (by simp;omega)];simp [ad9 (ae7 hn)]
  grind
theorem J' {α β:Type} (f:α->β) (l m:List α) (n:Nat):(gy l n m).map f=gy (l.map f) n (m.map f):=by simp [gy,]
theorem FV {α:Type} (l m:List α) (n:Nat) (h:n+aeL m<=aeL l):(gy l n m).length=(aeL l):=by simp [gy];omega
theorem SL (hE:eQ s e pe) (hS:cX s ps) {aO:Nat} {x yy:gR} (h:rU e s z (.append aO x yy) k ρ w=aeP y):ji s ps (bO pe ps z (.append aO x yy)) k ρ w y:=by
 simp [rU] at h;have hx:=eK hE x;have hyv:=eK hE yy;unfold Ut at h;generalize cq e yy=vy at h hyv;cases hc:D6 s vy with
 |none=>rw [hc] at h;cases h
 |some cc=>
  obtain ⟨q,m⟩:=cc;rw [hc] at h;obtain ⟨he,h⟩:=de h;have he:=EQ he;obtain ⟨HN,LG⟩:=UD hS hyv hc;rw [he] at HN;have AL:bO pe ps z (.append aO x yy)=lr ps z aO (x.ev pe) (yy.ev pe):=rfl;generalize cq e x=v at h hx;cases v with
  |nil e' c=>
   obtain ⟨IA,h⟩:=de h;obtain ⟨m',Fx,hk⟩:=dd h;obtain ⟨rfl,p9⟩:=EK Fx;refine ⟨_,_,?_,Good.new hS (q:= .arr aO (m'.map (RT.pv q))) (v:= .own (aeL s) aeT) (by rw [<- he];rfl) ⟨aO,aeL m',rfl,.inl ⟨q,m',zP,he.symm,rfl⟩⟩,hk⟩;rw [AL];have aoh:=IA;subst aoh;rw [hx];unfold lr;rw [HN];cases m' with
   |nil=>simp [hS.len,LG]
   |cons a m'=>
    have h2:aa9 ((a::m').length) gU=aeS:=by simp [gU] at p9 ⊢;omega
    simp [abg] at h2;simp [hS.len,LG,h2]
  |own t ex=>
   simp [cJ] at h;generalize cO:s[t]? =b at h;cases b with
   |none=>cases h
   |some b=>
    cases b with
    |arr r l=>
     dsimp only at h;cases Y4:xo q r m with
     |none=>rw [Y4] at h;cases h
     |some m2=>
      rw [Y4] at h;obtain ⟨rfl,hmp,RW⟩:=FM Y4;obtain ⟨e',n',hx,dH⟩:=hx;obtain ⟨rfl,rfl⟩:=dH.inv cO;rw [<- hmp] at HN;have N0:=hS.arr cO;cases ex with
      |true=>
       rcases gz h with ⟨hl,h⟩|⟨hl,h⟩
       · obtain ⟨m',Fx,hk⟩:=dd h
         obtain ⟨rfl,p9⟩:=EK Fx;have hl:l=[]:=by simpa using hl
         subst hl;refine ⟨_,_,?_,Good.new hS (b:= .arr q m') (v:= .own (aeL s) aeT) rfl ⟨aeL q,aeL m',rfl,.inl ⟨q,m',zP,rfl,rfl⟩⟩,hk⟩;rw [AL,hx];unfold lr;rw [HN];subst he;cases m' with
         |nil=>simp [hS.len,LG]
         |cons a m'=>
          have h2:aa9 ((a::m').length) gU=aeS:=by simp [gU] at p9 ⊢;omega
          simp [abg] at h2;simp [hS.len,LG,h2,N0]
       have hb0:ab4 (aeL l) 0=aeT:=by
        grind [EQ]
       rcases gz h with ⟨hm,h⟩|⟨hm,h⟩
       · have hm:m2=[]:=by simpa using hm
         subst hm;refine ji.rd hS h ?_ ⟨_,_,rfl,dH⟩;rw [AL,hx];unfold lr
         grind
       obtain ⟨l',qC,hk⟩:=dd h
       obtain ⟨rfl,p9⟩:=Ct qC;refine ⟨_,_,?_,Good.new hS (b:= .arr q (l++m2)) (v:= .own (aeL s) aeT) rfl ⟨aeL q,(l++m2).length,rfl,.inl ⟨q,l++m2,zP,rfl,rfl⟩⟩,hk⟩;rw [AL,hx];unfold lr;rw [HN];subst he;cases m2 with
       |nil=>cases hm
       |cons a m2=>
        have h2:aa9 (aeL l+(a::m2).length) gU=aeS:=by simp [gU] at p9 ⊢;omega
        simp only [abg] at h2;simp [hS.len,LG,h2,N0,abl]
      |false=>
       rcases gz h with ⟨hm,h⟩|⟨hm,h⟩
       · have hm:m2=[]:=by simpa using hm
         subst hm;refine ji.rd hS h ?_ ⟨_,_,rfl,dH⟩;rw [AL,hx];unfold lr
         grind
       obtain ⟨hz,h⟩:=wY h
       obtain ⟨l',qC,hk⟩:=dd h;obtain ⟨rfl,p9⟩:=Ct qC;have eT:(IH [t] (s.set t .dead)).length=(aeL s):=by rw [AH];simp
       refine ⟨_,_,?_,Good.put hS (ql:=[.arr (aeL q) ((l++m2).map (RT.pv q))]) (v:= .own (aeL s) aeT) cO (.inr rfl) rfl rfl
        (fun j b hj=>by
         cases j with
         |zero=>simp at hj;subst hj;exact ⟨_,rfl,rfl⟩
         |succ j=>simp at hj)
        ⟨aeL q,(l++m2).length,rfl,.inl ⟨q,l++m2,by simp_all,rfl,rfl⟩⟩,hk⟩
       rw [AL,hx];unfold lr;rw [HN];subst he;cases m2 with
       |nil=>cases hm
       |cons a m2=>
        have h2:aa9 (aeL l+(a::m2).length) gU=aeS:=by simp [gU] at p9 ⊢;omega
        simp only [abg] at h2;simp [hS.len,LG,h2,N0,hz,abl]
    |_=>cases h
  |pre t len cap ex=>
   simp [cJ] at h;generalize cO:s[t]? =b at h;cases b with
   |none=>cases h
   |some b=>
    cases b with
    |arr r l=>
     dsimp only at h;cases Y4:xo q r m with
     |none=>rw [Y4] at h;cases h
     |some m2=>
      rw [Y4] at h;obtain ⟨rfl,hmp,RW⟩:=FM Y4;obtain ⟨e',hx,dH⟩:=hx;have:=dH.inv cO;subst this;rw [<- hmp] at HN;have N0:=hS.arr cO;obtain ⟨hex,h⟩:=wY h;subst hex;rcases gz h with ⟨hm,h⟩|⟨hm,h⟩
      · have hm:m2=[]:=by simpa using hm
        subst hm;refine ji.rd hS h ?_ ⟨_,rfl,dH⟩;rw [AL,hx];unfold lr;simp_all
      rcases gz h with ⟨c1,h⟩|⟨c1,h⟩
      · obtain ⟨Pn,hk⟩:=kx h
        simp only [If,] at Pn;obtain ⟨c2,c3⟩:=Pn;have c2':=ab3 c2;refine ⟨_,_,?_,Good.put hS (ql:=[]) (v:= .pre t (len+aeL m2) cap aeT) cO (.inl ⟨_,rfl,FV _ _ _ c2'⟩) rfl rfl
         (fun j b hj=>by simp at hj) ⟨aeL q,rfl,?_⟩,hk⟩
        · rw [AL,hx]
          unfold lr;rw [HN];subst he;have ov:ot (0+len) (m2.map (RT.pv q)) (l.map (RT.pv q))=(gy l len m2).map (RT.pv q):=by rw [yn _ _ _ (by simp;omega),J',ae5]
          grind
        have:=D9.fr' dH ((Fr.dg (ts:=[t]) (Fr.set cO (.inl ⟨_,rfl,FV _ _ _ c2'⟩))).trans (Fr.app [t] _ []))
        exact this
      obtain ⟨hz0,h⟩:=wY h
      have hz:has z t=aeT:=by
       grind
      obtain ⟨l',qC,h⟩:=dd h;obtain ⟨Fi,hk⟩:=kx h;obtain ⟨aoi,p9⟩:=Ct qC;subst aoi;have av2:=ab3 Fi;have VT:(l.take len).length=len:=by grind
      have eT:(IH [t] (s.set t .dead)).length=(aeL s):=by rw [AH];simp
      have hal:(l.take len++m2).length=len+(aeL m2):=by grind
      refine ⟨_,_,?_,Good.put hS (ql:=[.arr (aeL q) ((l.take len++m2).map (RT.pv q))]) (v:= .own (aeL s) aeT) cO (.inr rfl) rfl rfl
       (fun j b hj=>by
        cases j with
        |zero=>simp at hj;subst hj;exact ⟨_,rfl,rfl⟩
        |succ j=>simp at hj)
       ⟨aeL q,(l.take len++m2).length,rfl,.inl ⟨q,l.take len++m2,by simp_all,rfl,rfl⟩⟩,hk⟩
      rw [AL,hx];unfold lr;rw [HN];subst he;cases m2 with
      |nil=>cases hm
      |cons a m2=>
       have h2:aa9 (len+(aeL m2+1)) gU=aeS:=by simp [gU] at p9 ⊢;omega
       simp [abg] at c1 hal;simp [abf,abg,abb,N0,acl,Bool.not_true,abi,if_false,c1,h2,hz,hS.len,LG,hal,abo,adc,abn]
    |_=>cases h
  |_=>cases h
end
end Go.Vm
/- Operation by operation: all of them. -/
namespace Go.Vm
section
variable {R' ρ : Type} {w : R' -> ρ} {y : ρ} {s : List SB} {ps : cU} {e : SE} {pe : Env} {z : List Nat} {k : iC -> jc R'}
theorem Wl (hE:eQ s e pe) (hS:cX s ps) {aO:Nat} {zero:Row} {x:gR} (h:rU e s z (.clear aO zero x) k ρ w=aeP y):ji s ps (bO pe ps z (.clear aO zero x)) k ρ w y:=by
 simp [rU] at h;have hx:=eK hE x;unfold YF at h;generalize cq e x=v at h hx;cases v with
 |part t off len cap ex=>
  simp [cJ] at h;generalize cO:s[t]? =b at h;cases b with
  |none=>cases h
  |some b=>
   cases b with
   |arr r l=>
    cases hq:JP zero with
    |none=>rw [hq] at h;cases h
    |some q=>
     rw [hq] at h;obtain ⟨hc,h1⟩:=de h;simp only [If] at hc;obtain ⟨hqr,he⟩:=hc;have hqr:=Ck hqr;have he:=EQ he;obtain ⟨e',hx,dH⟩:=hx;have:=dH.inv cO;subst this;subst hqr;subst he;rcases gz h1 with ⟨hl,hk⟩|⟨hl,hk⟩
     · have hl:=EQ hl
       subst hl;exact ji.val hS hk (by simp [bO,hx]) rfl
     obtain ⟨Pn,hk⟩:=kx hk
     simp only [If,] at Pn;obtain ⟨c1,c2⟩:=Pn;have c1':=ab3 c1;have eT:=FV l (abh len (RT.zero q)) off (by simpa using c1');refine ⟨_,_,?_,Good.YS hS cO (.inl ⟨_,rfl,eT⟩) rfl,hk⟩;cases len with
     |zero=>cases hl
     |succ len=>
      have ov:ot off (abh (len+1) zero) (l.map (RT.pv q))=(gy l off (abh (len+1) (RT.zero q))).map (RT.pv q):=by rw [J',yn _ _ _ (by simpa using c1')];simp [FQ hq]
      simp [bO,hx,hS.arr cO,c2,ov]
   |_=>cases h
 |_=>cases h
theorem EL (hS:cX s ps) {t off len cap:Nat} {ex:Bool} {r:List PT} {l:List _} {x yy:gR} {vy:SV} (cO:s[t]? =aeP (.arr r l)) (hx:x.ev pe= .own t (aeL r) off len cap ex) (hyv:R s vy (yy.ev pe))
 (h:JR s z t r l off len vy k ρ w=aeP y):ji s ps (bO pe ps z (.copy (aeL r) x yy)) k ρ w y:=by
 unfold JR at h;cases hc:D6 s vy with
 |none=>rw [hc] at h;cases h
 |some cc=>
  obtain ⟨q,m⟩:=cc;rw [hc] at h;dsimp only at h;cases Y4:xo q r m with
  |none=>rw [Y4] at h;cases h
  |some m2=>
   rw [Y4] at h;dsimp only at h;obtain ⟨hqr,hmp,RW⟩:=FM Y4;subst hqr;obtain ⟨HN,LG⟩:=UD hS hyv hc;rw [<- hmp] at HN;have Ka:(m2.map (RT.pv q)).take len=(m2.take len).map (RT.pv q):=by simp
   generalize m2.take len=mm at h Ka;rcases gz h with ⟨hm,hk⟩|⟨hm,hk⟩
   · have hm:mm=[]:=by simpa using hm
     subst hm;refine ji.rd hS hk ?_ rfl;simp [bO,HN,hx,Ka,LG]
   obtain ⟨Pn,hk⟩:=kx hk
   simp only [If,] at Pn;obtain ⟨c1,c2⟩:=Pn;have c1':=ab3 c1;have eT:=FV l mm off c1';refine ⟨_,_,?_,Good.put hS (ql:=[]) (v:= .int .i64 _) cO (.inl ⟨_,rfl,eT⟩) rfl rfl (fun j b hj=>by simp at hj) rfl,hk⟩;have ov:ot off (mm.map (RT.pv q)) (l.map (RT.pv q))=(gy l off mm).map (RT.pv q):=by
    grind [J',yn]
   cases mm with
   |nil=>cases hm
   |cons a mm=>simp [] at ov Ka;simp [bO,HN,hx,Ka,hS.arr cO,c2,ov,LG,]
theorem Y5 (hE:eQ s e pe) (hS:cX s ps) {aO:Nat} {x yy:gR} (h:rU e s z (.copy aO x yy) k ρ w=aeP y):ji s ps (bO pe ps z (.copy aO x yy)) k ρ w y:=by
 simp [rU] at h;have hx:=eK hE x;have hyv:=eK hE yy;unfold aer at h;generalize cq e x=v at h hx;cases v with
 |own t ex=>
  simp [cJ] at h;generalize cO:s[t]? =b at h;cases b with
  |none=>cases h
  |some b=>
   cases b with
   |arr r l=>
    obtain ⟨he,hk⟩:=de h;have he:=EQ he;obtain ⟨e',n',hx,dH⟩:=hx;obtain ⟨rfl,rfl⟩:=dH.inv cO
    grind [EL]
   |_=>cases h
 |pre t len cap ex=>
  simp [cJ] at h;generalize cO:s[t]? =b at h;cases b with
  |none=>cases h
  |some b=>
   cases b with
   |arr r l=>
    obtain ⟨he,hk⟩:=de h;have he:=EQ he;obtain ⟨e',hx,dH⟩:=hx;have:=dH.inv cO
    grind [EL]
   |_=>cases h
 |part t off len cap ex=>
  simp [cJ] at h;generalize cO:s[t]? =b at h;cases b with
  |none=>cases h
  |some b=>
   cases b with
   |arr r l=>
    obtain ⟨he,hk⟩:=de h;have he:=EQ he;obtain ⟨e',hx,dH⟩:=hx;have:=dH.inv cO
    grind [EL]
   |_=>cases h
 |_=>cases h
theorem Wm (hE:eQ s e pe) (hS:cX s ps) {x1 x2:gR} (h:rU e s z (.HH x1 x2) k ρ w=aeP y):ji s ps (bO pe ps z (.HH x1 x2)) k ρ w y:=by
 simp [rU] at h;have hx:=eK hE x1;have hy:=eK hE x2;generalize cq e x1=v at h hx;generalize cq e x2=u at h hy;cases v with
 |sl r l=>
  cases u with
  |sl q m=>have hx:x1.ev pe= .sl (aeL r) aeT _:=hx;have hy:x2.ev pe= .sl (aeL q) aeT _:=hy;refine ⟨_,_,?_,Good.new hS (b:= .box [.sl r l,.sl q m]) (v:= .part (aeL s) 0 2 2 aeS) ⟨_,rfl,_,_,rfl,rfl,_,_,rfl,rfl,rfl⟩ ⟨1,rfl,.inr (.inr ⟨_,zP,rfl⟩)⟩,h⟩;simp only [bO,hx,hy,hS.len];rfl
  |_=>cases h
 |_=>cases h
theorem ack (hE:eQ s e pe) (hS:cX s ps) {op:oC} (h:rU e s z op k ρ w=aeP y):ji s ps (bO pe ps z op) k ρ w y:=by
 cases op with
 |Xy x=>exact ji.val hS h rfl (eK hE x)
 |pick c a b=>exact YY hE hS h
 |bin op a b=>exact ab8 hE hS h
 |Pv n a b=>exact YT hE hS h
 |eqc n g a b=>exact ab9 hE hS h
 |un op a=>exact afR hE hS h
 |conv a x=>exact YV hE hS h
 |len x=>exact ab' hE hS h
 |R0 n=>exact ji.val hS h rfl rfl
 |box x=>exact aca hE hS h
 |alloc c=>exact Wg hS h
 |build z p=>exact Wf hE hS h
 |Fj a b c d=>exact Wj hE hS h
 |HH a b=>exact Wm hE hS h
 |load a p=>exact Y1 hE hS h
 |store a p x=>exact Wi hE hS h
 |Pw x=>exact YW hE hS h
 |Px o x=>exact YX hE hS h
 |eM a o x=>exact acb hE hS h
 |Py a x i=>exact YZ hE hS h
 |HI n a x i=>exact Wh hE hS h
 |idx n a g x i=>exact ach hE hS h
 |Pz x i=>exact Y0 hE hS h
 |Vu a x l h' m=>exact aci hE hS h
 |mks a z l c=>exact acj hE hS h
 |mkf f a b=>exact ace hE hS h
 |mkm m=>exact acf hS h
 |lookup n z o m q=>exact SK hE hS h
 |Nt n m q x=>exact Y3 hE hS h
 |ext i x=>exact acd hE hS h
 |append a x b=>exact SL hE hS h
 |copy a x b=>exact Y5 hE hS h
 |clear a z x=>exact Wl hE hS h
 |mm m x xs=>exact afS hE hS h
 |call m f a=>cases h
 |Bz x a=>cases h
 |bad=>cases h
mutual
theorem ajo {bx:Nat->Option (List SV)} {Y6:Nat->Option (List PV)} (hS:cX s ps) (hb: ∀t l,bx t=aeP l-> ∃q,Y6 t=aeP q/\wj l=aeP q): ∀{v u:SV} {p:PV},R s v p->Mt s bx v=aeP u-> ∃q,GG ps Y6 p=aeP q/\xq u=aeP q
 | .int k n,u,p,h,hx=>by injection hx with hx;subst hx;rw [show p=_ from h];exact ⟨_,rfl,rfl⟩
 | .bool b,u,p,h,hx=>by injection hx with hx;subst hx;rw [show p=_ from h];exact ⟨_,rfl,rfl⟩
 | .str x,u,p,h,hx=>by injection hx with hx;subst hx;rw [show p=_ from h];exact ⟨_,rfl,rfl⟩
 | .eW,u,p,h,hx=>by injection hx with hx;subst hx;rw [show p=_ from h];exact ⟨_,rfl,rfl⟩
 | .agg cs,u,p,h,hx=>by
  obtain ⟨q,rfl,h⟩:=h;simp only [Mt] at hx;split at hx
  · rename_i l hl
    injection hx with hx;subst hx;obtain ⟨q',h1,h2⟩:=y9 hS hb h hl;exact ⟨.agg q',by simp only [GG,h1];rfl,by simp only [xq,h2]⟩
  cases hx
 | .cV cs,u,p,h,hx=>by
  obtain ⟨q,rfl,h⟩:=h;simp only [Mt] at hx;split at hx
  · rename_i l hl
    injection hx with hx;subst hx;obtain ⟨q',h1,h2⟩:=y9 hS hb h hl;exact ⟨.cV q',by simp only [GG,h1];rfl,by simp only [xq,h2]⟩
  cases hx
 | .sl r l,u,p,h,hx=>by injection hx with hx;subst hx;rw [show p=_ from h];exact ⟨_,rfl,rfl⟩
 | .nil e c,u,p,h,hx=>by injection hx with hx;subst hx;rw [show p=_ from h];exact ⟨_,rfl,rfl⟩
 | .own t ex,u,p,h,hx=>by
  simp only [Mt,cJ] at hx;split at hx
  · rename_i r l cO
    injection hx with hx;subst hx;obtain ⟨e,n,rfl,dH⟩:=h;obtain ⟨rfl,rfl⟩:=dH.inv cO;refine ⟨.sl (aeL r) aeT (l.map (RT.pv r)),?_,rfl⟩;simp only [GG,hS.arr cO,abo];rw [abl (by simp)]
  cases hx
 | .pre t len cap ex,u,p,h,hx=>by
  simp only [Mt,cJ] at hx;split at hx
  · rename_i r l cO
    injection hx with hx;subst hx;obtain ⟨e,rfl,dH⟩:=h;have:=dH.inv cO;subst this;refine ⟨.sl (aeL r) aeT ((l.take len).map (RT.pv r)),?_,rfl⟩;simp only [GG,hS.arr cO,abo,abn]
  cases hx
 | .part t off len cap ex,u,p,h,hx=>by
  simp only [Mt,cJ] at hx;split at hx
  · rename_i r l cO
    injection hx with hx;subst hx;obtain ⟨e,rfl,dH⟩:=h;have:=dH.inv cO;subst this;refine ⟨.sl (aeL r) aeT (((l.drop off).take len).map (RT.pv r)),?_,rfl⟩;simp only [GG,hS.arr cO,abn,ad6]
  cases hx
 | .pa t r i a off,u,p,h,hx=>by
  simp only [Mt,cJ] at hx;split at hx
  · rename_i q l cO
    injection hx with hx;subst hx;obtain ⟨rfl,dH⟩:=h;obtain ⟨rfl,hg⟩:=dH.inv cO;obtain ⟨m,rfl,hm⟩:=q8 hg;refine ⟨.bR (RT.pv r a) off,?_,by simp only [xq,RT.Mw]⟩;have Fx:(l.map (RT.pv r))[m]? =aeP (RT.pv r a):=by simp [hm]
    have e1:(abv m).toNat=m:=rfl;simp only [GG,hS.arr cO,e1,Fx];rfl
  cases hx
 | .bp t n off,u,p,h,hx=>by
  simp only [Mt,cJ] at hx;split at hx
  · rename_i cs cO
    split at hx
    · rename_i l hl
      injection hx with hx;subst hx;rw [show p=_ from h];obtain ⟨q,h1,h2⟩:=hb t l hl;obtain ⟨c,h3,_⟩:=hS.box cO;refine ⟨.bR q off,?_,by simp only [xq,h2]⟩;simp only [GG,h3,acl,if_true,h1];rfl
    cases hx
  cases hx
 | .bR cs off,u,p,h,hx=>by
  obtain ⟨q,rfl,h⟩:=h;simp only [Mt] at hx;split at hx
  · rename_i l hl
    injection hx with hx;subst hx;obtain ⟨q',h1,h2⟩:=y9 hS hb h hl;exact ⟨.bR q' off,by simp only [GG,h1];rfl,by simp only [xq,h2]⟩
  cases hx
 | .fx f a b,u,p,h,hx=>by
  obtain ⟨pa,pb,rfl,h1,h2⟩:=h;simp only [Mt] at hx;split at hx
  · rename_i x y' h3 h4
    injection hx with hx;subst hx;obtain ⟨qa,h5,h6⟩:=y9 hS hb h1 h3;obtain ⟨qb,h7,h8⟩:=y9 hS hb h2 h4;exact ⟨.fx f qa qb,by simp only [GG,h5,h7],by simp only [xq,h6,h8]⟩
  cases hx
 | .jM,_,_,_,hx| .undef,_,_,_,hx| .na,_,_,_,hx| .pb _ _ _,_,_,_,hx| .mp _,_,_,_,hx=>by cases hx
theorem y9 {bx:Nat->Option (List SV)} {Y6:Nat->Option (List PV)} (hS:cX s ps) (hb: ∀t l,bx t=aeP l-> ∃q,Y6 t=aeP q/\wj l=aeP q): ∀{v u:List SV} {p:List PV},RL s v p->xp s bx v=aeP u-> ∃q,GH ps Y6 p=aeP q/\wj u=aeP q
 | [],u,p,h,hx=>by injection hx with hx;subst hx;rw [show p=_ from h];exact ⟨_,rfl,rfl⟩
 |x::xs,u,p,h,hx=>by
  obtain ⟨q,qs,rfl,h1,h2⟩:=h.cons_inv;simp only [xp] at hx;split at hx
  · rename_i y' ys h3 h4
    injection hx with hx;subst hx;obtain ⟨a,h5,h6⟩:=ajo hS hb h1 h3;obtain ⟨as,h7,h8⟩:=y9 hS hb h2 h4;exact ⟨a::as,by simp only [GH,h5,h7],fE.2 ⟨a,as,rfl,h6,h8⟩⟩
  cases hx
end
theorem I0 (hS:cX s ps): ∀(n t:Nat) (l:List SV),nS s n t=aeP l-> ∃q,B0 ps n t=aeP q/\wj l=aeP q
 |0,t,l,h=>by cases h
 |n+1,t,l,h=>by
  simp [nS,cJ] at h;split at h
  · rename_i cs cO
    obtain ⟨q,h1,h2⟩:=hS.box cO;obtain ⟨u,h3,h4⟩:=y9 hS (I0 hS n) h2 h;exact ⟨u,by simp [B0,h1,h3],h4⟩
  cases h
mutual
theorem Y7 {bx Y6:Nat->List Nat} (hb: ∀t,bx t=Y6 t): ∀{v:SV} {p:PV},R s v p->v.sure=aeS->Uu bx v=lM Y6 p
 | .jM,_,_,h=>by cases h
 | .undef,p,h,_| .na,p,h,_| .eW,p,h,_| .int _ _,p,h,_| .bool _,p,h,_| .str _,p,h,_| .sl _ _,p,h,_| .nil _ _,p,h,_=>by rw [show p=_ from h];rfl
 | .agg cs,p,h,hs=>by obtain ⟨q,rfl,h⟩:=h;exact EM hb h hs
 | .cV cs,p,h,hs=>by obtain ⟨q,rfl,h⟩:=h;exact EM hb h hs
 | .own t ex,p,h,_=>by obtain ⟨e,n,rfl,_⟩:=h;rfl
 | .pre t a b c,p,h,_=>by obtain ⟨e,rfl,_⟩:=h;rfl
 | .part t o a b c,p,h,_=>by obtain ⟨e,rfl,_⟩:=h;rfl
 | .pa t r i a o,p,h,_=>by obtain ⟨rfl,_⟩:=h;simp only [Uu,lM,hb]
 | .pb t i o,p,h,_=>by obtain ⟨e,rfl,_⟩:=h;simp only [Uu,lM,hb]
 | .bp t n o,p,h,_=>by rw [show p=_ from h];simp only [Uu,lM,hb]
 | .bR cs o,p,h,hs=>by obtain ⟨q,rfl,h⟩:=h;exact EM hb h hs
 | .mp t,p,h,_=>by rw [show p=_ from h];rfl
 | .fx f a b,p,h,hs=>by obtain ⟨pa,pb,rfl,h1,h2⟩:=h;simp only [SV.sure,If] at hs;simp only [Uu,lM,EM hb h1 hs.1,EM hb h2 hs.2]
theorem EM {bx Y6:Nat->List Nat} (hb: ∀t,bx t=Y6 t): ∀{v:List SV} {p:List PV},RL s v p->pS v=aeS->wF bx v=eJ Y6 p
 | [],p,h,_=>by rw [show p=_ from h];rfl
 |x::xs,p,h,hs=>by obtain ⟨q,qs,rfl,h1,h2⟩:=h.cons_inv;simp only [pS,If] at hs;simp only [wF,eJ,Y7 hb h1 hs.1,EM hb h2 hs.2]
end
end
end Go.Vm
/- The head of a loop: what the typed machine keeps there, the logical machine keeps there. -/
namespace Go.Vm
section
variable {s : List SB} {ps : cU}
mutual
theorem ajp {n:Nat} (hS:cX s ps) (hB: ∀t l,nS s n t=aeP l->BT s n t=fS ps n t): ∀{v u:SV} {p:PV},R s v p->Mt s (nS s n) v=aeP u->Uu (BT s n) v=lM (fS ps n) p
 | .int _ _,_,p,h,_| .bool _,_,p,h,_| .str _,_,p,h,_| .eW,_,p,h,_| .sl _ _,_,p,h,_| .nil _ _,_,p,h,_=>by rw [h];rfl
 | .agg cs,u,p,h,hx=>by
  obtain ⟨q,rfl,h⟩:=h;simp [Mt] at hx;split at hx
  · rename_i l hl;exact D' hS hB h hl
  cases hx
 | .cV cs,u,p,h,hx=>by
  obtain ⟨q,rfl,h⟩:=h;simp [Mt] at hx;split at hx
  · rename_i l hl;exact D' hS hB h hl
  cases hx
 | .own t ex,_,p,h,_=>by obtain ⟨e,n,rfl,_⟩:=h;rfl
 | .pre t a b c,_,p,h,_=>by obtain ⟨e,rfl,_⟩:=h;rfl
 | .part t o a b c,_,p,h,_=>by obtain ⟨e,rfl,_⟩:=h;rfl
 | .pa t r i a o,_,p,h,hx=>by
  obtain ⟨rfl,dH⟩:=h;simp [Mt,cJ] at hx;split at hx
  · rename_i q l cO
    simp [Uu,lM];cases n with
    |zero=>rfl
    |succ n=>simp [BT,fS,cJ,cO,hS.arr cO]
  cases hx
 | .bp t m o,u,p,h,hx=>by
  rw [h];simp [Mt,] at hx;split at hx
  · split at hx
    · rename_i l hl
      simp [Uu,lM,hB t l hl]
    cases hx
  cases hx
 | .bR cs o,u,p,h,hx=>by
  obtain ⟨q,rfl,h⟩:=h;simp [Mt] at hx;split at hx
  · rename_i l hl;exact D' hS hB h hl
  cases hx
 | .fx f a b,u,p,h,hx=>by
  obtain ⟨pa,pb,rfl,h1,h2⟩:=h;simp [Mt] at hx;split at hx
  · rename_i x y h3 h4
    simp [Uu,lM,D' hS hB h1 h3,D' hS hB h2 h4]
  cases hx
 | .jM,_,_,_,hx| .undef,_,_,_,hx| .na,_,_,_,hx| .pb _ _ _,_,_,_,hx| .mp _,_,_,_,hx=>by cases hx
theorem D' {n:Nat} (hS:cX s ps) (hB: ∀t l,nS s n t=aeP l->BT s n t=fS ps n t): ∀{v u:List SV} {p:List PV},RL s v p->xp s (nS s n) v=aeP u->wF (BT s n) v=eJ (fS ps n) p
 | [],_,p,h,_=>by rw [h];rfl
 |x::xs,u,p,h,hx=>by
  obtain ⟨q,qs,rfl,h1,h2⟩:=h.cons_inv;simp [xp] at hx;split at hx
  · rename_i a b h3 h4
    simp [wF,eJ,ajp hS hB h1 h3,D' hS hB h2 h4]
  cases hx
end
theorem Y8 {n:Nat} (hS:cX s ps) (hB: ∀t l,nS s n t=aeP l->BT s n t=fS ps n t): ∀{v:List SV} {p:List PV},RL s v p->Sw s (nS s n) v=aeS->wF (BT s n) v=eJ (fS ps n) p
 | [],p,h,_=>by rw [h];rfl
 |x::xs,p,h,hx=>by
  obtain ⟨a,as,rfl,h1,h2⟩:=h.cons_inv;have other: ∀u,Mt s (nS s n) x=aeP u->Sw s (nS s n) xs=aeS->wF (BT s n) (x::xs)=eJ (fS ps n) (a::as):=fun u h3 h4=>by simp [wF,eJ,ajp hS hB h1 h3,Y8 hS hB h2 h4]
  unfold Sw at hx;split at hx
  · rename_i t
    rw [h1];simp [wF,eJ,Uu,lM,Y8 hS hB h2 hx]
  grind
theorem Kb (hS:cX s ps): ∀(n t:Nat) (l:List SV),nS s n t=aeP l->BT s n t=fS ps n t
 |0,t,l,h=>rfl
 |n+1,t,l,h=>by
  simp [nS,cJ] at h;split at h
  · rename_i cs cO
    obtain ⟨q,h1,h2⟩:=hS.box cO;simp [BT,fS,cJ,cO,h1];exact D' hS (Kb hS n) h2 h
  cases h
theorem Oj {b:SB} {q:om} (h:RB s b q) (hs:Dm b=aeS):N8 b=wm q:=by
 cases b with
 |box cs=>obtain ⟨c,rfl,h⟩:=h;exact EM (fun _=>rfl) h hs
 |arr r l=>rw [h];rfl
 |set l=>rw [h];rfl
 |nB p l=>rw [h];rfl
 |dead=>rw [h];rfl
theorem Kc (hS:cX s ps): ∀(n:Nat) (ts seen m:List Nat),JS s n ts seen=aeP m->reach ps n ts seen=aeP m
 |n,[],seen,m,h=>by cases n<;>(assumption)
 |0,_::_,_,_,h=>by cases h
 |n+1,t::ts,seen,m,h=>by
  simp [JS,cJ] at h;simp [reach];cases hh:has seen t with
  |true=>rw [hh] at h;simp [];exact Kc hS n ts seen m h
  |false=>
   rw [hh] at h;split at h
   · rename_i b cO
     obtain ⟨q,h1,h2⟩:=hS.at_ t b cO;cases hb:Dm b with
     |false=>grind
     |true=>rw [hb] at h;simp [v6] at h;rw [h1,Oj h2 hb] at*;exact Kc hS n _ _ m h
   cases h
theorem Ke: ∀{t u:Nat} {m:List Nat},idxOf t m=aeP u->m[u]? =aeP t
 |t,u,[],h=>by cases h
 |t,u,x::m,h=>by
  simp only [idxOf] at h;cases hb:ab4 x t with
  |true=>grind [EQ]
  |false=>rw [hb] at h;simp [abi,if_false,aaE] at h;obtain ⟨v,hv,rfl⟩:=h;simpa using Ke hv
def Kf (m:List Nat) (s s':List SB):Prop:= ∀(t u:Nat) (b:SB),idxOf t m=aeP u->s[t]? =aeP b->match b with
 | .arr r l=>s'[u]? =aeP (.arr r l)
 | .dead=>s'[u]? =aeP .dead
 | .box _=> ∃cs,s'[u]? =aeP (.box cs)
 |_=>True
mutual
theorem Y9 {m:List Nat} {s':List SB} (hr:Kf m s s'): ∀{v u:SV} {p:PV},R s v p->vt m v=aeP u-> ∃q,qp m p=aeP q/\R s' u q
 | .jM,_,_,_,hx=>by cases hx
 | .undef,u,p,h,hx| .na,u,p,h,hx| .eW,u,p,h,hx| .int _ _,u,p,h,hx| .bool _,u,p,h,hx| .str _,u,p,h,hx| .sl _ _,u,p,h,hx| .nil _ _,u,p,h,hx=>by injection hx with hx;subst hx;rw [h];exact ⟨_,rfl,rfl⟩
 | .agg cs,u,p,h,hx=>by
  obtain ⟨q,rfl,h⟩:=h;simp [vt] at hx;split at hx
  · rename_i l hl
    injection hx with hx;subst hx;obtain ⟨q',h1,h2⟩:=yo hr h hl;exact ⟨.agg q',by simp only [qp,h1];rfl,q',rfl,h2⟩
  cases hx
 | .cV cs,u,p,h,hx=>by
  obtain ⟨q,rfl,h⟩:=h;simp [vt] at hx;split at hx
  · rename_i l hl
    injection hx with hx;subst hx;obtain ⟨q',h1,h2⟩:=yo hr h hl;exact ⟨.cV q',by simp only [qp,h1];rfl,q',rfl,h2⟩
  cases hx
 | .own t ex,u,p,h,hx=>by
  obtain ⟨e,n,rfl,dH⟩:=h;simp [vt] at hx;split at hx
  · rename_i v hv
    injection hx with hx;subst hx;refine ⟨.own v e 0 n n ex,by simp only [qp,hv];rfl,e,n,rfl,?_⟩;rcases dH with ⟨r,l,h1,h2,h3⟩|h1
    · exact .inl ⟨r,l,hr t v _ hv h1,h2,h3⟩
    exact .inr (hr t v _ hv h1)
  cases hx
 | .pre t len cap ex,u,p,h,hx=>by
  obtain ⟨e,rfl,dH⟩:=h;simp [vt] at hx;split at hx
  · rename_i v hv
    injection hx with hx;subst hx;refine ⟨.own v e 0 len cap ex,by simp only [qp,hv];rfl,e,rfl,?_⟩;rcases dH with ⟨r,l,h1,h2⟩|h1|⟨cs,h1,h2⟩
    · exact .inl ⟨r,l,hr t v _ hv h1,h2⟩
    · exact .inr (.inl (hr t v _ hv h1))
    obtain ⟨c2,h3⟩:=hr t v _ hv h1
    exact .inr (.inr ⟨c2,h3,h2⟩)
  cases hx
 | .part t off len cap ex,u,p,h,hx=>by
  obtain ⟨e,rfl,dH⟩:=h;simp [vt] at hx;split at hx
  · rename_i v hv
    injection hx with hx;subst hx;refine ⟨.own v e off len cap ex,by simp only [qp,hv];rfl,e,rfl,?_⟩;rcases dH with ⟨r,l,h1,h2⟩|h1|⟨cs,h1,h2⟩
    · exact .inl ⟨r,l,hr t v _ hv h1,h2⟩
    · exact .inr (.inl (hr t v _ hv h1))
    obtain ⟨c2,h3⟩:=hr t v _ hv h1
    exact .inr (.inr ⟨c2,h3,h2⟩)
  cases hx
 | .pa t r i a off,u,p,h,hx=>by
  obtain ⟨rfl,dH⟩:=h;simp [vt] at hx;split at hx
  · rename_i v hv
    injection hx with hx;subst hx;refine ⟨.ptr v (aeL r) i.toNat off,by simp only [qp,hv];rfl,aeL r,rfl,?_⟩;rcases dH with ⟨l,h1,h2⟩|h1
    · exact .inl ⟨r,l,hr t v _ hv h1,by rw [h2];rfl⟩
    exact .inr (hr t v _ hv h1)
  cases hx
 | .pb t i off,u,p,h,hx=>by
  obtain ⟨e,rfl,dH⟩:=h;simp [vt] at hx;split at hx
  · rename_i v hv
    injection hx with hx;subst hx;refine ⟨.ptr v e i.toNat off,by simp only [qp,hv];rfl,e,rfl,?_⟩;rcases dH with ⟨r,l,h1,h2⟩|h1
    · exact .inl ⟨r,l,hr t v _ hv h1,h2⟩
    exact .inr (hr t v _ hv h1)
  cases hx
 | .bp t n off,u,p,h,hx=>by
  rw [h];simp [vt] at hx;split at hx
  · rename_i v hv
    injection hx with hx;subst hx;exact ⟨.ptr v n 0 off,by simp only [qp,hv];rfl,rfl⟩
  cases hx
 | .bR cs off,u,p,h,hx=>by
  obtain ⟨q,rfl,h⟩:=h;simp [vt] at hx;split at hx
  · rename_i l hl
    injection hx with hx;subst hx;obtain ⟨q',h1,h2⟩:=yo hr h hl;exact ⟨.bR q' off,by simp only [qp,h1];rfl,q',rfl,h2⟩
  cases hx
 | .mp t,u,p,h,hx=>by
  rw [h];simp [vt] at hx;split at hx
  · rename_i v hv
    injection hx with hx;subst hx;exact ⟨.mp v,by simp only [qp,hv];rfl,rfl⟩
  cases hx
 | .fx f a b,u,p,h,hx=>by
  obtain ⟨pa,pb,rfl,h1,h2⟩:=h;simp [vt] at hx;split at hx
  · rename_i x y h3 h4
    injection hx with hx;subst hx;obtain ⟨qa,h5,h6⟩:=yo hr h1 h3;obtain ⟨qb,h7,h8⟩:=yo hr h2 h4;exact ⟨.fx f qa qb,by simp [qp,h5,h7],qa,qb,rfl,h6,h8⟩
  cases hx
theorem yo {m:List Nat} {s':List SB} (hr:Kf m s s'): ∀{v u:List SV} {p:List PV},RL s v p->yj m v=aeP u-> ∃q,DP m p=aeP q/\RL s' u q
 | [],u,p,h,hx=>by injection hx with hx;subst hx;rw [h];exact ⟨_,rfl,rfl⟩
 |x::xs,u,p,h,hx=>by
  obtain ⟨q,qs,rfl,h1,h2⟩:=h.cons_inv;simp [yj] at hx;split at hx
  · rename_i a b h3 h4
    injection hx with hx;subst hx;obtain ⟨a',h5,h6⟩:=Y9 hr h1 h3;obtain ⟨b',h7,h8⟩:=yo hr h2 h4;exact ⟨a'::b',by simp [DP,h5,h7],RL.cons h6 h8⟩
  cases hx
end
theorem afU {m:List Nat} {s':List SB} (hr:Kf m s s') {b c:SB} {q:om} (h:RB s b q) (hx:Sy m b=aeP c): ∃q',rW m q=aeP q'/\RB s' c q':=by
 cases b with
 |box cs=>
  obtain ⟨p,rfl,h⟩:=h;simp [Sy] at hx;split at hx
  · rename_i l hl
    injection hx with hx;subst hx;obtain ⟨q',h1,h2⟩:=yo hr h hl;exact ⟨.box q',by simp only [rW,h1];rfl,q',rfl,h2⟩
  cases hx
 |arr r l=>injection hx with hx;subst hx;rw [h];exact ⟨_,rfl,rfl⟩
 |set l=>injection hx with hx;subst hx;rw [h];exact ⟨_,rfl,rfl⟩
 |nB p l=>injection hx with hx;subst hx;rw [h];exact ⟨_,rfl,rfl⟩
 |dead=>injection hx with hx;subst hx;rw [h];exact ⟨_,rfl,rfl⟩
theorem Cu {m:List Nat}: ∀{ts:List Nat} {s1:List SB},LS s m ts=aeP s1->aeL s1=aeL ts/\ ∀(j t:Nat),ts[j]? =aeP t-> ∃b c,s[t]? =aeP b/\Sy m b=aeP c/\s1[j]? =aeP c
 | [],s1,h=>by injection h with h;grind
 |t::ts,s1,h=>by
  simp [LS,cJ] at h;split at h
  · rename_i b hb
    split at h
    · rename_i c r hc hr
      injection h with h;subst h;obtain ⟨h1,h2⟩:=Cu hr
      grind
    cases h
  cases h
theorem G8 (hS:cX s ps) {m:List Nat} {s':List SB} (hr:Kf m s s'): ∀{ts:List Nat} {s1:List SB},LS s m ts=aeP s1-> ∃p1,B1 ps m ts=aeP p1/\aeL p1=aeL s1/\ ∀(j:Nat) (b:SB),s1[j]? =aeP b-> ∃q,p1[j]? =aeP q/\RB s' b q
 | [],s1,h=>by injection h with h;subst h;exact ⟨[],rfl,rfl,fun j b h=>by simp at h⟩
 |t::ts,s1,h=>by
  simp [LS,cJ] at h;split at h
  · rename_i b hb
    split at h
    · rename_i c r hc hr'
      injection h with h;subst h;obtain ⟨q,h1,h2⟩:=hS.at_ t b hb;obtain ⟨q',h3,h4⟩:=afU hr h2 hc;obtain ⟨p1,h5,h6,h7⟩:=G8 hS hr hr';refine ⟨q'::p1,by simp [B1,h1,h3,h5],by simp [h6],fun j x hj=>?_⟩
      grind
    cases h
  cases h
theorem Kf.of {m:List Nat} {s1 l:List SB} (h:LS s m m=aeP s1):Kf m s (s1++l):=fun t u b hu hb=>by
 have hm:=Ke hu;obtain ⟨h1,h2⟩:=Cu h;obtain ⟨b',c,h3,h4,h5⟩:=h2 u t hm;rw [hb] at h3;injection h3 with h3;subst h3;cases b with
 |arr r l'=>injection h4 with h4;grind
 |dead=>injection h4 with h4;grind
 |box cs=>
  simp [Sy] at h4
  grind
 |_=>trivial
theorem zQ: ∀(rk:List (Nat×List PT)) (n:Nat),(rowOf rk n).length=n
 | [],n=>by simp [rowOf]
 |(m,r)::q,n=>by
  simp [rowOf];cases hc:(ab4 m n&&ab4 (aeL r) n) with
  |true=>simp_all
  |false=>exact zQ q n
theorem G9 {rk:List (Nat×List PT)} {e:SE} {m:List Nat}: ∀{live:List (Nat×Option Nat)} {nx:Nat} {e1:SE} {s2:List SB},Co rk e m nx live=aeP (e1,s2)-> ∀(j:Nat) (b:SB),s2[j]? =aeP b-> ∃r,b= .arr r []
 | [],nx,e1,s2,h,j,b,hj=>by
  simp [Co,] at h
  grind
 |(t,k)::live,nx,e1,s2,h,j,b,hj=>by
  simp [Co] at h;split at h
  · split at h
    · rename_i p hp
      simp [abc,] at h;obtain ⟨rfl,rfl⟩:=h;cases j with
      |zero=>grind
      |succ j=>exact G9 hp j b (by simpa using hj)
    cases h
  split at h
  · rename_i v' p hv hp
    simp [abc,] at h;obtain ⟨rfl,rfl⟩:=h;exact G9 hp j b hj
  cases h
mutual
theorem G' {m:List Nat}: ∀{v u:SV},vt m v=aeP u->u.sure=aeS
 | .jM,_,h=>by cases h
 | .undef,u,h| .na,u,h| .eW,u,h| .int _ _,u,h| .bool _,u,h| .str _,u,h| .sl _ _,u,h| .nil _ _,u,h=>by injection h with h;subst h;rfl
 | .agg cs,u,h=>by
  simp [vt] at h;split at h
  · rename_i l hl;injection h with h;subst h;exact qF hl
  cases h
 | .cV cs,u,h=>by
  simp [vt] at h;split at h
  · rename_i l hl;injection h with h;subst h;exact qF hl
  cases h
 | .bR cs _,u,h=>by
  simp [vt] at h;split at h
  · rename_i l hl;injection h with h;subst h;exact qF hl
  cases h
 | .own _ _,u,h=>by simp [vt] at h;split at h<;>first|(injection h with h;subst h;rfl)|cases h
 | .pre _ _ _ _,u,h=>by simp [vt] at h;split at h<;>first|(injection h with h;subst h;rfl)|cases h
 | .part _ _ _ _ _,u,h=>by simp [vt] at h;split at h<;>first|(injection h with h;subst h;rfl)|cases h
 | .pa _ _ _ _ _,u,h=>by simp [vt] at h;split at h<;>first|(injection h with h;subst h;rfl)|cases h
 | .pb _ _ _,u,h=>by simp [vt] at h;split at h<;>first|(injection h with h;subst h;rfl)|cases h
 | .bp _ _ _,u,h=>by simp [vt] at h;split at h<;>first|(injection h with h;subst h;rfl)|cases h
 | .mp _,u,h=>by simp [vt] at h;split at h<;>first|(injection h with h;subst h;rfl)|cases h
 | .fx f a b,u,h=>by
  simp [vt] at h;split at h
  · rename_i x y h1 h2
    injection h with h;subst h;simp [SV.sure,qF h1,qF h2,abe]
  cases h
theorem qF {m:List Nat}: ∀{v u:List SV},yj m v=aeP u->pS u=aeS
 | [],u,h=>by injection h with h;subst h;rfl
 |x::xs,u,h=>by
  simp [yj] at h;split at h
  · rename_i a b h1 h2
    injection h with h;subst h;simp [pS,G' h1,qF h2,abe]
  cases h
end
theorem acn {s:List SB} {v:SV} {p:PV} (h:R s v p): ∀k:Option Nat,v.sure=aeS->R s (N9 k v) (L' k p)
 |none,_=>h
 |some _,hs=>by
  cases v with
  |own t ex=>obtain ⟨e,n,rfl,h⟩:=h;exact ⟨e,n,rfl,h⟩
  |pre t l c ex=>obtain ⟨e,rfl,h⟩:=h;exact ⟨e,rfl,h⟩
  |part t o l c ex=>obtain ⟨e,rfl,h⟩:=h;exact ⟨e,rfl,h⟩
  |jM=>cases hs
  |undef|na|eW|int _ _|bool _|str _|bp _ _ _|mp _|sl _ _|nil _ _=>rw [h];rfl
  |agg _|cV _|bR _ _=>obtain ⟨q,rfl,h⟩:=h;exact ⟨q,rfl,h⟩
  |fx _ _ _=>obtain ⟨q,q2,rfl,h⟩:=h;exact ⟨q,q2,rfl,h⟩
  |pa _ _ _ _ _=>obtain ⟨rfl,h⟩:=h;exact ⟨rfl,h⟩
  |pb _ _ _=>obtain ⟨q,rfl,h⟩:=h;exact ⟨q,rfl,h⟩
theorem SM {v:SV} (h:v.sure=aeS) (k:Option Nat):(N9 k v).sure=aeS:=by unfold N9;split<;>first|rfl|exact h
theorem Ol {rk:List (Nat×List PT)} {e:SE} {pe:Env} (hE:eQ s e pe) {m:List Nat} {s':List SB} (hr:Kf m s s'): ∀{live:List (Nat×Option Nat)} {nx:Nat} {e1:SE} {s2:List SB},Co rk e m nx live=aeP (e1,s2)->(∀(j:Nat) (b:SB),s2[j]? =aeP b->s'[nx+j]? =aeP b)->
 ∃p1 q2,xZ pe m nx live=aeP (p1,q2)/\eQ s' e1 p1/\aeL q2=aeL s2/\ ∀(j:Nat) (b:SB),s2[j]? =aeP b-> ∃q,q2[j]? =aeP q/\RB s' b q
 | [],nx,e1,s2,h,_=>by obtain ⟨rfl,rfl⟩:=h;exact ⟨[],[],rfl,rfl,rfl,fun j b h=>by simp at h⟩
 |(t,k)::live,nx,e1,s2,h,hs=>by
  have Ap:=hE.lk t;simp [Co] at h;split at h
  · rename_i kk aO en hv
    split at h
    · rename_i p hp
      obtain ⟨rfl,rfl⟩:=h;rw [hv] at Ap;obtain ⟨p1,q2,h1,h2,h3,h4⟩:=Ol hE hr hp (fun j b hj=>by
       have:=hs (j+1) b (by simpa using hj)
       grind)
      refine ⟨(t,.own nx aO 0 0 0 aeT)::p1,.arr aO []::q2,?_,⟨_,_,rfl,⟨aO,0,rfl,.inl ⟨rowOf rk aO,[],by simpa using hs 0 _ rfl,(zQ rk aO).symm,rfl⟩⟩,h2⟩,by simp [h3],fun j b hj=>?_⟩
      · have afV:lk t pe= .sl en aeS []:=Ap
        simp only [xZ,afV,h1];rfl
      cases j with
      |zero=>simp at hj;subst hj;exact ⟨_,rfl,by show _=_;rw [zQ];rfl⟩
      |succ j=>grind
    cases h
  rename_i fy
  split at h
  · rename_i v' p hv hp
    obtain ⟨rfl,rfl⟩:=h;obtain ⟨q',h5,h6⟩:=Y9 hr Ap hv;obtain ⟨p1,q2,h1,h2,h3,h4⟩:=Ol hE hr hp hs;refine ⟨(t,L' _ q')::p1,q2,?_,⟨_,_,rfl,acn h6 _ (G' hv),h2⟩,h3,h4⟩;simp [xZ];split
    · rename_i aO x hx
      exfalso;rw [hx] at Ap;generalize HV t e=v0 at Ap hv fy;cases v0 with
      |jM=>cases hv
      |nil e' c=>have afV:=Ap;injection afV with h1 h2;subst h2;exact fy _ _ rfl rfl
      |undef|na|eW|int _ _|bool _|str _|bp _ _ _|mp _=>cases (Ap)
      |sl r l=>cases (Ap)
      |agg _|cV _|bR _ _=>obtain ⟨q,hq,_⟩:=Ap;cases hq
      |fx _ _ _=>obtain ⟨q,q2,hq,_⟩:=Ap;cases hq
      |own _ _=>obtain ⟨q,q2,hq,_⟩:=Ap;cases hq
      |pre _ _ _ _=>obtain ⟨q,hq,_⟩:=Ap;cases hq
      |part _ _ _ _ _=>obtain ⟨q,hq,_⟩:=Ap;cases hq
      |pa _ _ _ _ _=>obtain ⟨hq,_⟩:=Ap;cases hq
      |pb _ _ _=>obtain ⟨q,hq,_⟩:=Ap;cases hq
    grind
  cases h
def aey (s:List SB):Prop:= ∀(t:Nat) (cs:List SV),s[t]? =aeP (.box cs)->pS cs=aeS
def MC:SE->Prop
 | []=>True
 |(_,v)::r=>v.sure=aeS/\MC r
theorem MC.lk: ∀{e:SE},MC e-> ∀t,(HV t e).sure=aeS
 | [],_,t=>rfl
 |(u,v)::r,h,t=>by
  simp [HV];cases hb:ab4 u t with
  |true=>exact h.1
  |false=>exact MC.lk h.2 t
theorem EN {rk:List (Nat×List PT)} {e:SE} {m:List Nat}: ∀{live:List (Nat×Option Nat)} {nx:Nat} {e1:SE} {s2:List SB},Co rk e m nx live=aeP (e1,s2)->MC e1
 | [],nx,e1,s2,h=>by simp only [Co,abc,aew] at h;rw [<- h.1];trivial
 |(t,k)::live,nx,e1,s2,h=>by
  simp [Co] at h;split at h
  · split at h
    · rename_i p hp
      simp [abc,] at h;obtain ⟨rfl,rfl⟩:=h;exact ⟨rfl,EN hp⟩
    cases h
  split at h
  · rename_i v' p hv hp
    simp [abc,] at h;obtain ⟨rfl,rfl⟩:=h;exact ⟨SM (G' hv) _,EN hp⟩
  cases h
theorem MD: ∀{l:List SV},pS l=aeS-> ∀{n:Nat} {v:SV},nth l n=aeP v->v.sure=aeS
 | [],_,_,_,h=>by cases h
 |x::xs,hs,0,v,h=>by injection h with h;subst h;simp [pS,If] at hs;exact hs.1
 |x::xs,hs,n+1,v,h=>by simp [pS,If] at hs;exact MD hs.2 h
theorem ME: ∀{l:List SV},pS l=aeS-> ∀(n:Nat) {v:SV},v.sure=aeS->pS (l.set n v)=aeS
 | [],_,n,v,_=>rfl
 |x::xs,hs,0,v,h=>by simp [pS,If] at hs;simp [pS,h,hs.2]
 |x::xs,hs,n+1,v,h=>by simp [pS,If] at hs;simp [pS,hs.1,ME hs.2 n h]
theorem RL.set {s:List SB}: ∀{xs:List SV} {ps:List PV},RL s xs ps-> ∀(n:Nat) {v:SV} {p:PV},R s v p->RL s (xs.set n v) (ps.set n p)
 | [],ps,h,n,v,p,_=>by rw [h];exact RL.nil
 |x::xs,ps,h,0,v,p,hv=>by obtain ⟨a,q,rfl,h1,h2⟩:=h.cons_inv;exact RL.cons hv h2
 |x::xs,ps,h,n+1,v,p,hv=>by obtain ⟨a,q,rfl,h1,h2⟩:=h.cons_inv;exact RL.cons h1 (RL.set h2 n hv)
structure RSS (st:tT) (p:St):Prop where
 r:Dp st p
 s:aey st.aA
 e:MC st.env
theorem SN {rk:List (Nat×List PT)} {st:tT} {p:St} (h:RSS st p) (t c aO:Nat):RSS (JT rk st t c aO) (wo p t c aO):=by
 unfold JT wo;rw [cJ];cases cO:st.aA[t]? with
 |none=>
  have:p.aA[t]? =aeR:=by rw [aby] at cO ⊢;rw [h.r.aA.len];exact cO
  grind
 |some b=>
  obtain ⟨q,h1,h2⟩:=h.r.aA.at_ t b cO;rw [h1];cases b with
  |arr r l=>rw [h2];exact h
  |set l=>rw [h2];exact h
  |nB p l=>rw [h2];exact h
  |dead=>rw [h2];exact h
  |box cs=>
   obtain ⟨pc,rfl,h3⟩:=h2;dsimp only;cases hc:nth cs c with
   |none=>
    have:pc[c]? =aeR:=by rw [cJ,aby] at hc;rw [aby,h3.qA];exact hc
    grind
   |some v=>
    obtain ⟨pv,h4,h5⟩:=h3.nth hc;rw [h4];have ajq:=MD (h.s t cs cO) hc;have wB:=h.s t cs cO;have other:(∀e,pv≠ .sl e aeS [])->(∀e,v≠ .nil e aeS)->RSS (match aeP v with
     |some (.nil _ aeS)=>{st with aA:=st.aA.set t (.box (cs.set c (.own (aeL st.aA) aeT)))++[.arr (rowOf rk aO) []]}
     |_=>st) (match aeP pv with
     |some (.sl _ aeS [])=>{p with aA:=p.aA.set t (.box (pc.set c (.own (aeL p.aA) aO 0 0 0 aeT)))++[.arr aO []]}
     |_=>p):=by
     grind
    cases v with
    |jM=>cases ajq
    |nil e' cl=>
     have h5':=h5;subst h5';cases cl with
     |false=>omega
     |true=>
      have iz:=(IR.1 cO).1;have yX:Fr [] st.aA (st.aA.set t (.box (cs.set c (.own (aeL st.aA) aeT)))++[.arr (rowOf rk aO) []]):=fun u x hu=>by
       grind
      have eT:(st.aA.set t (.box (cs.set c (.own (aeL st.aA) aeT)))).length=(aeL st.aA):=by simp
      have aoj:R (st.aA.set t (.box (cs.set c (.own (aeL st.aA) aeT)))++[.arr (rowOf rk aO) []]) (.own (aeL st.aA) aeT) (.own (aeL p.aA) aO 0 0 0 aeT):=by refine ⟨aO,0,by rw [h.r.aA.len],.inl ⟨rowOf rk aO,[],?_,(zQ rk aO).symm,rfl⟩⟩;simp
      refine ⟨⟨eQ.ext yX h.r.env,⟨by simp [h.r.aA.len],fun u x hu=>?_⟩,h.r.fz,h.r.kn⟩,fun u x hu=>?_,h.e⟩
      · rcases abA u (aeL st.aA) with hul|hul
        · rw [aaF (by simpa using hul),ab1] at hu
          by_cases hut:t=u
          · subst hut
            simp [iz] at hu;subst hu;refine ⟨.box (pc.set c (.own (aeL p.aA) aO 0 0 0 aeT)),?_,_,rfl,RL.set (RL.ext yX h3) c aoj⟩
            grind
          simp [hut] at hu
          obtain ⟨q,h6,h7⟩:=h.r.aA.at_ u x hu;refine ⟨q,?_,h7.ext yX⟩
          grind
        rw [UV (by simpa using hul)] at hu
        simp [eT] at hu;have hu0:u-(aeL st.aA)=0:=by
         grind
        rw [hu0] at hu;simp at hu;subst hu;refine ⟨.arr aO [],?_,by show _=_;rw [zQ];rfl⟩;rw [UV (by simp [h.r.aA.len];omega)];simp [h.r.aA.len,hu0]
      rcases abA u (aeL st.aA) with hul|hul
      · rw [aaF (by simpa using hul),ab1] at hu
        by_cases hut:t=u
        · subst hut
          simp [iz] at hu;subst hu;exact ME wB c rfl
        simp [hut] at hu;exact h.s u x hu
      grind
    |undef|na|eW|int _ _|bool _|str _|bp _ _ _|mp _=>exact other (fun e he=>by rw [h5] at he;cases he) (fun e he=>by cases he)
    |sl r l=>exact other (fun e he=>by rw [h5] at he;cases he) (fun e he=>by cases he)
    |agg _|cV _|bR _ _=>exact other (fun e he=>by obtain ⟨q,hq,_⟩:=h5;grind) (fun e he=>by cases he)
    |fx _ _ _=>exact other (fun e he=>by obtain ⟨q,q2,hq,_⟩:=h5;grind) (fun e he=>by cases he)
    |own _ _=>exact other (fun e he=>by obtain ⟨q,q2,hq,_⟩:=h5;grind) (fun e he=>by cases he)
    |pre _ _ _ _|part _ _ _ _ _|pb _ _ _=>exact other (fun e he=>by obtain ⟨q,hq,_⟩:=h5;grind) (fun e he=>by cases he)
    |pa _ _ _ _ _=>exact other (fun e he=>by obtain ⟨hq,_⟩:=h5;grind) (fun e he=>by cases he)
theorem Om {p:St} {t c aO:Nat} (h: ∀cs,p.aA[t]?≠aeP (.box cs)):wo p t c aO=p:=by unfold wo;simp
theorem Y' {st:tT} {p:St} (h:RSS st p) {v:SV} {q:PV} (hv:R st.aA v q) (hs:v≠ .jM):(∃t,YH v=aeP t/\Jg q=aeP t)\/(YH v=aeR/\ ∀t,Jg q=aeP t-> ∀cs,p.aA[t]?≠aeP (.box cs)):=by
 cases v with
 |jM=>grind
 |bp u m off=>
  have hq:=hv;subst hq;cases off with
  |zero=>exact .inl ⟨u,rfl,rfl⟩
  |succ off=>exact .inr ⟨rfl,fun t ht=>by cases ht⟩
 |pb u i off=>
  obtain ⟨e',hq,dH⟩:=hv;refine .inr ⟨rfl,fun t ht cs wB=>?_⟩;have:t=u:=by
   unfold Jg at ht
   grind
  subst this;rcases dH with ⟨r,l,h1,_⟩|h1
  · rw [h.r.aA.arr h1] at wB;cases wB
  obtain ⟨q,h2,h3⟩:=h.r.aA.at_ t _ h1
  rw [wB] at h2;injection h2 with h2;subst h2;cases (h3)
 |pa u r i a off=>
  obtain ⟨hq,dH⟩:=hv;refine .inr ⟨rfl,fun t ht cs wB=>?_⟩;have:t=u:=by
   unfold Jg at ht
   grind
  subst this;rcases dH with ⟨l,h1,_⟩|h1
  · rw [h.r.aA.arr h1] at wB;cases wB
  obtain ⟨q,h2,h3⟩:=h.r.aA.at_ t _ h1
  rw [wB] at h2;injection h2 with h2;subst h2;cases (h3)
 |undef|na|eW|int _ _|bool _|str _|mp _|sl _ _|nil _ _=>exact .inr ⟨rfl,fun t ht=>by rw [hv] at ht;cases ht⟩
 |agg _|cV _|bR _ _=>exact .inr ⟨rfl,fun t ht=>by obtain ⟨_,rfl,_⟩:=hv;cases ht⟩
 |fx _ _ _=>exact .inr ⟨rfl,fun t ht=>by obtain ⟨_,_,rfl,_⟩:=hv;cases ht⟩
 |own _ _=>exact .inr ⟨rfl,fun t ht=>by obtain ⟨_,_,rfl,_⟩:=hv;cases ht⟩
 |pre _ _ _ _|part _ _ _ _ _=>exact .inr ⟨rfl,fun t ht=>by obtain ⟨_,rfl,_⟩:=hv;cases ht⟩
theorem afW {st:tT} {p:St} (h:RSS st p) {v:SV} {q:PV} (hv:R st.aA v q) (hs:v.sure=aeS):(∃t,ab0 v=aeP t/\PA q=aeP t)\/(ab0 v=aeR/\ ∀t,PA q=aeP t-> ∀cs,p.aA[t]?≠aeP (.box cs)):=by
 have hj:v≠ .jM:=fun e=>by subst e;cases hs
 by_cases hc: ∃f a b,v= .fx f a b
 · obtain ⟨f,a,b,rfl⟩:=hc
   obtain ⟨pa,pb,rfl,h1,h2⟩:=hv;cases b with
   |nil=>have:=h2;subst this;exact .inr ⟨rfl,fun t ht=>by cases ht⟩
   |cons y ys=>obtain ⟨z,zs,rfl,g1,g2⟩:=h2;exact Y' h g1 (fun e=>by subst e;simp [SV.sure,pS] at hs)
 have e1:ab0 v=YH v:=by
  cases v with
  |fx f a b=>exact absurd ⟨f,a,b,rfl⟩ hc
  |_=>rfl
 have e2:PA q=Jg q:=by
  cases q with
  |fx f a b=>
   exfalso;cases v with
   |jM=>exact hj rfl
   |fx f a b=>exact hc ⟨f,a,b,rfl⟩
   |bp _ _ _|undef|na|eW|int _ _|bool _|str _|mp _|sl _ _|nil _ _=>cases (hv)
   |agg _|cV _|bR _ _|pre _ _ _ _|part _ _ _ _ _|pb _ _ _=>obtain ⟨_,hq,_⟩:=hv;cases hq
   |own _ _=>obtain ⟨_,_,hq,_⟩:=hv;cases hq
   |pa _ _ _ _ _=>obtain ⟨hq,_⟩:=hv;cases hq
  |_=>rfl
 grind [Y']
theorem rj {rk:List (Nat×List PT)}: ∀(live:List (Nat×Option Nat)) {st:tT} {p:St},RSS st p->RSS (rf rk live st) (oD live p)
 | [],st,p,h=>h
 |(t,k)::live,st,p,h=>by
  cases k with
  |none=>exact rj live h
  |some n=>
   simp only [rf,oD];cases hn:aa9 1000 n with
   |false=>exact rj live h
   |true=>
    have Ap:=h.r.env.lk t;have hsu:=h.e.lk t;rcases afW h Ap hsu with ⟨u,e1,e2⟩|⟨e1,e2⟩
    · rw [e1,e2]
      exact rj live (SN h u _ _)
    rw [e1]
    cases hb:PA (lk t p.env) with
    |none=>exact rj live h
    |some u=>show RSS (rf rk live st) (oD live (wo p u (n / 1000-1) (n%1000)));rw [Om (e2 u hb)];exact rj live h
theorem Qs {e:SE} {pe:Env} (hE:eQ s e pe): ∀{live:List (Nat×Option Nat)},FJ e live=aeS->JU e live=live.flatMap fun p=>lM zu (lk p.1 pe)
 | [],_=>rfl
 |(t,k)::live,h=>by simp [FJ,If] at h;simp [JU,ae8,Qs hE h.2];rw [Y7 (fun _=>rfl) (hE.lk t) h.1]
theorem Za: ∀{s':List SB} {s:List SB} {ps:cU} (n:Nat),(aeL ps=aeL s/\ ∀(t:Nat) (b:SB),s[t]? =aeP b-> ∃q,ps[t]? =aeP q/\RB s' b q)->JV s n=aeS->Sz s n=(ps.take n).flatMap wm
 |s',[],ps,n,h,_=>by have:=abj.1 (by simpa using h.1);subst this;cases n<;>simp [Sz]
 |s',b::s,ps,0,h,_=>by simp [Sz]
 |s',b::s,ps,n+1,h,hk=>by
  cases ps with
  |nil=>grind
  |cons q ps=>simp [JV,If] at hk;obtain ⟨q',h1,h2⟩:=h.2 0 b rfl;simp at h1;subst h1;simp [Sz,List.take_succ_cons,ae8,Oj h2 hk.1];rw [Za n ⟨by simpa using h.1,fun t x hx=>by simpa using h.2 (t+1) x (by simpa using hx)⟩ hk.2]
theorem UG {s:List SB} {v:SV} {p:PV} (h:R s v p):R s (Mu s v) p:=by
 unfold Mu;split
 · rename_i t ex
   rw [cJ];split
   · rename_i r l cO
     obtain ⟨e,n,rfl,dH⟩:=h;obtain ⟨rfl,rfl⟩:=dH.inv cO;exact ⟨aeL r,rfl,.inl ⟨r,l,cO,rfl⟩⟩
   exact h
 exact h
theorem UH {s:List SB} (c:Nat): ∀{e:SE} {p:Env},eQ s e p->eQ s (Uv s c e) p
 | [],_,h=>h
 |(t,v)::r,_,h=>by
  obtain ⟨q,qs,rfl,h1,h2⟩:=h;simp [Uv];cases hb:ab4 t c with
  |true=>exact ⟨q,qs,rfl,UG h1,h2⟩
  |false=>exact ⟨q,qs,rfl,h1,UH c h2⟩
theorem Ha: ∀(live:List (Nat×Option Nat)) {st:tT} {p:St},Dp st p->Dp (FI live st) p
 | [],st,p,h=>h
 |(t,k)::r,st,p,h=>by
  simp [FI];cases hn:aa9 1000000 t with
  |true=>exact Ha r ⟨UH _ h.env,h.aA,h.fz,h.kn⟩
  |false=>exact Ha r h
theorem Qt {rk:List (Nat×List PT)} {live:List (Nat×Option Nat)} {st rO:tT} {p:St} (h:Dp st p) (hn:JW rk live st=aeP rO): ∃p1,Ma live p=aeP p1/\Dp rO p1:=by
 unfold JW at hn;cases hc:(FJ st.env live&&JV st.aA st.kn) with
 |false=>grind
 |true=>
  rw [hc] at hn;simp [If] at hc;split at hn
  · cases hn
  rename_i m hm
  split at hn
  · rename_i s1 e1 s2 h1 h2
    injection hn with hn;subst hn;have ht:Sz st.aA st.kn++JU st.env live=(p.aA.take p.kn).flatMap wm++live.flatMap fun q=>lM zu (lk q.1 p.env):=by rw [Qs h.env hc.1,Za st.kn ⟨h.aA.len,h.aA.at_⟩ hc.2,h.kn]
    rw [ht] at hm;have Fx:=Kc h.aA _ _ _ _ hm;have hr:Kf m st.aA (s1++s2):=Kf.of h1;obtain ⟨p1,a1,a2,a3⟩:=G8 h.aA hr h1;have eT:=(Cu h1).1;obtain ⟨pe1,q2,b1,b2,b3,b4⟩:=Ol h.env hr h2 (fun j b hj=>by rw [<- eT,UV (by omega)];simpa using hj);have Ax:cX (s1++s2) (p1++q2):=⟨by simp [a2,b3],fun t b ht=>by
     rcases abA t (aeL s1) with hl|hl
     · rw [aaF hl] at ht
       obtain ⟨q,c1,c2⟩:=a3 t b ht;exact ⟨q,by rw [aaF (by omega)];exact c1,c2⟩
     rw [UV hl] at ht
     obtain ⟨q,c1,c2⟩:=b4 _ b ht;exact ⟨q,by rw [UV (by omega),a2];exact c1,c2⟩⟩
    have hs:aey (s1++s2):=fun t cs ht=>by
     rcases abA t (aeL s1) with hl|hl
     · rw [aaF hl] at ht
       obtain ⟨b,c,d1,d2,d3⟩:=(Cu h1).2 t (m[t]'(by omega)) (PP (by omega));rw [ht] at d3;injection d3 with d3;subst d3;cases b with
       |box x=>
        simp [Sy] at d2;split at d2
        · rename_i l qC;injection d2 with d2;injection d2 with d2;subst d2;exact qF qC
        cases d2
       |arr _ _=>cases d2
       |set _=>cases d2
       |nB _ _=>cases d2
       |dead=>cases d2
     rw [UV hl] at ht
     obtain ⟨r,hr'⟩:=G9 h2 _ _ ht;cases hr'
    have hR:RSS {env:=e1,aA:=s1++s2,fz:=B2 st.fz 0 m,kn:=st.kn} {env:=pe1,aA:=p1++q2,fz:=B2 p.fz 0 m,kn:=p.kn}:=
     ⟨⟨b2,Ax,by rw [h.fz],h.kn⟩,hs,EN h2⟩
    refine ⟨_,?_,Ha live (rj live hR).r⟩;unfold Ma;rw [h.kn] at Fx;rw [h.kn]
    grind
  cases hn
theorem UI {rk:List (Nat×List PT)} {live:List (Nat×Option Nat)} {st rO:tT} {p:St} (h:Dp st p) (hn:JX rk live st=aeP rO): ∃p1,norm live p=aeP p1/\Dp rO p1:=by
 unfold JX at hn;cases h1:JW rk live st with
 |none=>grind
 |some s=>
  rw [h1] at hn;obtain ⟨p1,h2,h3⟩:=Qt h h1;unfold norm;rw [h2];dsimp only;cases ha:(live.any fun p=>p.2.isSome) with
  |true=>rw [ha] at hn;exact Qt h3 hn
  |false=>
   grind
mutual
theorem I1: ∀{a b:SV} (q:List BX),BH a b=aeS->y8 a (G3 b++q)=(b,q)
 | .undef,.undef,q,_=>rfl
 | .na,.na,q,_=>rfl
 | .eW,.eW,q,_=>rfl
 | .int k _,.int l n,q,h=>by rw [gx.1 h];rfl
 | .bool _,.bool _,q,_=>rfl
 | .agg a,.agg b,q,h=>by simp [y8,G3,ss q h]
 | .cV a,.cV b,q,h=>by simp [y8,G3,ss q h]
 | .sl r _,.sl r' l,q,h=>rfl
 | .nil e c,.nil f d,q,h=>by simp only [BH,If,beq_iff_eq] at h;rw [EQ h.1,h.2];rfl
 | .own t x,.own u y,q,h=>by simp only [BH,If,beq_iff_eq] at h;rw [EQ h.1,h.2];rfl
 | .pre t _ _ x,.pre u _ _ y,q,h=>by simp only [BH,If,beq_iff_eq] at h;rw [EQ h.1,h.2];rfl
 | .part t _ _ _ x,.part u _ _ _ y,q,h=>by simp only [BH,If,beq_iff_eq] at h;rw [EQ h.1,h.2];rfl
 | .pb t _ o,.pb u _ p,q,h=>by simp only [BH,If] at h;rw [EQ h.1,EQ h.2];rfl
 | .bp t n o,.bp u m p,q,h=>by simp only [BH,If] at h;rw [EQ h.1.1,EQ h.1.2,EQ h.2];rfl
 | .bR a o,.bR b p,q,h=>by simp only [BH,If] at h;simp [y8,G3,ss q h.1,EQ h.2]
 | .fx f a b,.fx g c d,q,h=>by simp only [BH,If] at h;simp [y8,G3,aba,ss _ h.1.2,ss q h.2,EQ h.1.1]
 | .mp t,.mp u,q,h=>by rw [EQ h];rfl
 | .jM,.jM,q,_=>rfl
theorem ss: ∀{a b:List SV} (q:List BX),Cp a b=aeS->wH a (G4 b++q)=(b,q)
 | [],[],q,_=>rfl
 |x::xs,y::ys,q,h=>by simp [Cp,If] at h;simp [wH,G4,aba,I1 _ h.1,ss q h.2]
 | [],_::_,_,h=>by cases h
 |_::_,[],_,h=>by cases h
end
theorem Zb: ∀{a b:SB} (q:List BX),aes a b=aeS->SA a (YI b++q)=(b,q)
 | .arr r _,.arr r' l,q,h=>rfl
 | .box a,.box b,q,h=>by simp [SA,YI,ss q h]
 | .set _,.set _,q,_=>rfl
 | .nB p _,.nB p' l,q,h=>by rfl
 | .dead,.dead,q,_=>rfl
 | .arr _ _,.box _,_,h| .arr _ _,.set _,_,h| .arr _ _,.dead,_,h| .box _,.arr _ _,_,h| .box _,.set _,_,h| .box _,.dead,_,h| .set _,.arr _ _,_,h| .set _,.box _,_,h| .set _,.dead,_,h| .dead,.arr _ _,_,h| .dead,.box _,_,h| .dead,.set _,_,h
 | .nB _ _,.arr _ _,_,h| .nB _ _,.box _,_,h| .nB _ _,.set _,_,h| .nB _ _,.dead,_,h| .arr _ _,.nB _ _,_,h| .box _,.nB _ _,_,h| .set _,.nB _ _,_,h| .dead,.nB _ _,_,h=>by cases h
theorem FW: ∀{a b:List SB} (q:List BX),JY a b=aeS->EG a (Oa b++q)=(b,q)
 | [],[],q,_=>rfl
 |x::xs,y::ys,q,h=>by simp [JY,If] at h;simp [EG,Oa,aba,Zb _ h.1,FW q h.2]
 | [],_::_,_,h=>by cases h
 |_::_,[],_,h=>by cases h
theorem Qu: ∀{a b:SE} (q:List BX),Uw a b=aeS->Ql a (Wb b++q)=(b,q)
 | [],[],q,_=>rfl
 |(t,x)::xs,(u,y)::ys,q,h=>by simp only [Uw,If] at h;simp [Ql,Wb,aba,I1 _ h.1.2,Qu q h.2,EQ h.1.1]
 | [],_::_,_,h=>by cases h
 |_::_,[],_,h=>by cases h
theorem Qv: ∀{a b:List Nat},Ux a b=aeS->a=b
 | [],[],_=>rfl
 |x::xs,y::ys,h=>by simp only [Ux,If] at h;rw [EQ h.1,Qv h.2]
 | [],_::_,h=>by cases h
 |_::_,[],h=>by cases h
theorem MF {a b:tT} (h:EF a b=aeS):zN a (sq b)=b:=by simp only [EF,If] at h;obtain ⟨⟨⟨h1,h2⟩,h3⟩,h4⟩:=h;have hs:=FW [] h2;rw [abd] at hs;simp [zN,sq,Qu _ h1,hs,Qv h3,EQ h4]
theorem AK.aeA: ∀{a:AK} {x:BX} {y:a.T},a.of x=aeP y->a.at y=x
 | .i,.i _,y,h=>by injection h with h;subst h;rfl
 | .b,.b _,y,h=>by injection h with h;subst h;rfl
 | .n,.n _,y,h=>by injection h with h;subst h;rfl
 | .l r,.l q x,y,h=>by obtain ⟨rfl,rfl⟩:=tV h;rfl
 | .s,.s _,y,h=>by injection h with h;subst h;rfl
 | .i,.b _,_,h| .i,.n _,_,h| .i,.l _ _,_,h| .i,.s _,_,h| .b,.i _,_,h| .b,.n _,_,h| .b,.l _ _,_,h| .b,.s _,_,h| .n,.i _,_,h| .n,.b _,_,h| .n,.l _ _,_,h| .n,.s _,_,h
 | .l _,.i _,_,h| .l _,.b _,_,h| .l _,.n _,_,h| .l _,.s _,_,h| .s,.i _,_,h| .s,.b _,_,h| .s,.n _,_,h| .s,.l _ _,_,h=>by cases h
theorem tY: ∀{ks:List AK} {l:List BX} {y:kv ks},oK ks l=aeP y->pT ks y=l
 | [],[],y,_=>rfl
 | [a],[x],y,h=>by have:=AK.aeA h;simp [pT,this]
 |a::q::r,x::xs,y,h=>by
  simp [oK] at h;split at h
  · rename_i u v h1 h2
    injection h with h;subst h;simp [pT,AK.aeA h1,tY h2]
  cases h
 | [],_::_,_,h=>by cases h
 | [_],[],_,h=>by cases h
 | [_],_::_::_,_,h=>by cases h
 |_::_::_,[],_,h=>by cases h
end
end Go.Vm
/- What is known of functions, and what a call of one comes to. -/
namespace Go.Vm
mutual
def Kg:Nat->PV->Option (PV×cU)
 |_,.int k n=>aeP (.int k n,[])
 |_,.bool b=>aeP (.bool b,[])
 |nx,.agg cs=>match Kh nx cs with|some r=>aeP (.agg r.1,r.2)|none=>aeR
 |nx,.cV cs=>match Kh nx cs with|some r=>aeP (.cV r.1,r.2)|none=>aeR
 |nx,.sl e aeT rows=>aeP (.own nx e 0 (aeL rows) (aeL rows) aeT,[.arr e rows])
 |_,_=>aeR
def Kh:Nat->List PV->Option (List PV×cU)
 |_,[]=>aeP ([],[])
 |nx,x::xs=>match Kg nx x with
  |some a=>match Kh (nx+aeL a.2) xs with
   |some b=>aeP (a.1::b.1,a.2++b.2)
   |none=>aeR
  |none=>aeR
end
def AM (s:List SB) (n:Nat) (l:List SB):Prop:= ∀(j:Nat) (b:SB),l[j]? =aeP b->s[n+j]? =aeP b
theorem AM.left {s:List SB} {n:Nat} {l m:List SB} (h:AM s n (l++m)):AM s n l:=fun j b hj=>h j b (by
 grind)
theorem AM.right {s:List SB} {n:Nat} {l m:List SB} (h:AM s n (l++m)):AM s (n+aeL l) m:=fun j b hj=>by
 have:=h (aeL l+j) b (by rw [UV (by omega)];simpa using hj)
 grind
def SP (s:List SB) (l:List SB) (q:cU):Prop:=aeL q=aeL l/\ ∀(j:Nat) (b:SB),l[j]? =aeP b-> ∃x,q[j]? =aeP x/\RB s b x
theorem SP.append {s l m:List SB} {q r:cU} (h:SP s l q) (k:SP s m r):SP s (l++m) (q++r):=by
 refine ⟨by simp [h.1,k.1],fun j b hj=>?_⟩;rcases abA j (aeL l) with hl|hl
 · rw [aaF hl] at hj
   obtain ⟨x,h1,h2⟩:=h.2 j b hj
   grind
 rw [UV hl] at hj
 obtain ⟨x,h1,h2⟩:=k.2 _ b hj;exact ⟨x,by rw [UV (by rw [h.1];exact hl),h.1];exact h1,h2⟩
theorem SP.nil {s:List SB}:SP s [] []:=⟨rfl,fun j b h=>by simp at h⟩
theorem SP.one {s:List SB} {b:SB} {x:om} (h:RB s b x):SP s [b] [x]:=⟨rfl,fun j c hc=>by
 grind⟩
mutual
theorem UJ: ∀{v:SV} {nx:Nat} {p0 p:PV} {q:cU},xq v=aeP p0->Kg nx p0=aeP (p,q)-> ∀{s:List SB},AM s nx (Cn nx v).2->R s (Cn nx v).1 p/\SP s (Cn nx v).2 q
 | .int k n,nx,p0,p,q,h0,h,s,_=>by injection h0 with h0;subst h0;injection h with h;injection h with h1 h2;subst h1 h2;exact ⟨rfl,SP.nil⟩
 | .bool b,nx,p0,p,q,h0,h,s,_=>by injection h0 with h0;subst h0;injection h with h;injection h with h1 h2;subst h1 h2;exact ⟨rfl,SP.nil⟩
 | .agg cs,nx,p0,p,q,h0,h,s,hb=>by
  simp [xq] at h0;split at h0
  · rename_i l hl
    injection h0 with h0;subst h0;simp [Kg] at h;split at h
    · rename_i r hr
      injection h with h;injection h with h1 h2;subst h1 h2;obtain ⟨h3,h4⟩:=Ki hl hr hb;exact ⟨⟨r.1,rfl,h3⟩,h4⟩
    cases h
  cases h0
 | .cV cs,nx,p0,p,q,h0,h,s,hb=>by
  simp [xq] at h0;split at h0
  · rename_i l hl
    injection h0 with h0;subst h0;simp [Kg] at h;split at h
    · rename_i r hr
      injection h with h;injection h with h1 h2;subst h1 h2;obtain ⟨h3,h4⟩:=Ki hl hr hb;exact ⟨⟨r.1,rfl,h3⟩,h4⟩
    cases h
  cases h0
 | .sl r l,nx,p0,p,q,h0,h,s,hb=>by injection h0 with h0;subst h0;injection h with h;injection h with h1 h2;subst h1 h2;refine ⟨⟨aeL r,aeL l,by simp,.inl ⟨r,l,hb 0 _ rfl,rfl,rfl⟩⟩,SP.one rfl⟩
 | .nil e c,nx,p0,p,q,h0,h,s,hb=>by
  injection h0 with h0;subst h0;cases c with
  |true=>simp [Kg] at h
  |false=>injection h with h;injection h with h1 h2;subst h1 h2;exact ⟨⟨e,0,rfl,.inl ⟨_,[],hb 0 _ rfl,by simp,rfl⟩⟩,SP.one (by show _=_;simp)⟩
 | .str _,nx,p0,p,q,h0,h,s,_=>by injection h0 with h0;subst h0;cases h
 | .eW,nx,p0,p,q,h0,h,s,_=>by injection h0 with h0;subst h0;cases h
 | .bR cs o,nx,p0,p,q,h0,h,s,_=>by
  simp [xq] at h0;split at h0
  · injection h0 with h0;subst h0;cases h
  cases h0
 | .fx f a b,nx,p0,p,q,h0,h,s,_=>by
  simp [xq] at h0;split at h0
  · injection h0 with h0;subst h0;cases h
  cases h0
 | .jM,_,_,_,_,h0,_,_,_| .undef,_,_,_,_,h0,_,_,_| .na,_,_,_,_,h0,_,_,_| .own _ _,_,_,_,_,h0,_,_,_| .pre _ _ _ _,_,_,_,_,h0,_,_,_| .part _ _ _ _ _,_,_,_,_,h0,_,_,_
 | .pa _ _ _ _ _,_,_,_,_,h0,_,_,_| .pb _ _ _,_,_,_,_,h0,_,_,_| .bp _ _ _,_,_,_,_,h0,_,_,_| .mp _,_,_,_,_,h0,_,_,_=>by cases h0
theorem Ki: ∀{v:List SV} {nx:Nat} {p0 p:List PV} {q:cU},wj v=aeP p0->Kh nx p0=aeP (p,q)-> ∀{s:List SB},AM s nx (y7 nx v).2->RL s (y7 nx v).1 p/\SP s (y7 nx v).2 q
 | [],nx,p0,p,q,h0,h,s,_=>by injection h0 with h0;subst h0;injection h with h;injection h with h1 h2;subst h1 h2;exact ⟨rfl,SP.nil⟩
 |x::xs,nx,p0,p,q,h0,h,s,hb=>by
  obtain ⟨a,as,rfl,h1,h2⟩:=fE.1 h0;simp [Kh] at h;split at h
  · rename_i ra hra
    split at h
    · rename_i rb hrb
      injection h with h;injection h with e1 e2;subst e1 e2;simp [y7] at hb ⊢;obtain ⟨k1,k2⟩:=UJ h1 hra hb.left;rw [k2.1] at hrb;obtain ⟨k3,k4⟩:=Ki h2 hrb hb.right;exact ⟨RL.cons k1 k3,k2.append k4⟩
    cases h
  cases h
end
mutual
theorem Zc {s:List SB} {ps:cU} {z:List Nat} (hS:cX s ps): ∀{v v':SV} {p:PV} {seen gQ:List Nat} (nx:Nat),R s v p->Wa s z seen v=aeP (v',gQ)-> ∃p0 p' q,xq v'=aeP p0/\Kg nx p0=aeP (p',q)/\Fh ps z nx seen p=aeP (p',q,gQ)
 | .int k n,v',p,seen,gQ,nx,h,hx=>by injection hx with hx;injection hx with h1 h2;subst h1 h2;rw [h];exact ⟨_,_,_,rfl,rfl,rfl⟩
 | .bool k,v',p,seen,gQ,nx,h,hx=>by injection hx with hx;injection hx with h1 h2;subst h1 h2;rw [h];exact ⟨_,_,_,rfl,rfl,rfl⟩
 | .agg cs,v',p,seen,gQ,nx,h,hx=>by
  obtain ⟨q,rfl,h⟩:=h;simp [Wa] at hx;split at hx
  · rename_i r hr
    injection hx with hx;injection hx with h1 h2;subst h1 h2;obtain ⟨p0,p',q',h3,h4,h5⟩:=On hS nx h hr;exact ⟨.agg p0,.agg p',q',by simp [xq,h3],by simp [Kg,h4],by simp only [Fh,h5];rfl⟩
  cases hx
 | .cV cs,v',p,seen,gQ,nx,h,hx=>by
  obtain ⟨q,rfl,h⟩:=h;simp [Wa] at hx;split at hx
  · rename_i r hr
    injection hx with hx;injection hx with h1 h2;subst h1 h2;obtain ⟨p0,p',q',h3,h4,h5⟩:=On hS nx h hr;exact ⟨.cV p0,.cV p',q',by simp [xq,h3],by simp [Kg,h4],by simp only [Fh,h5];rfl⟩
  cases hx
 | .nil e c,v',p,seen,gQ,nx,h,hx=>by
  cases c with
  |false=>cases hx
  |true=>injection hx with hx;injection hx with h1 h2;subst h1 h2;rw [h];exact ⟨_,_,_,rfl,rfl,rfl⟩
 | .own t ex,v',p,seen,gQ,nx,h,hx=>by
  obtain ⟨e,n,rfl,dH⟩:=h;simp [Wa,cJ] at hx;split at hx
  · rename_i r l cO
    obtain ⟨rfl,rfl⟩:=dH.inv cO;cases hc:(has seen t||has z t) with
    |true=>grind
    |false=>rw [hc] at hx;injection hx with hx;injection hx with h1 h2;subst h1 h2;refine ⟨_,_,_,rfl,rfl,?_⟩;simp only [Fh,hS.arr cO,hc];simp
  cases hx
 | .jM,_,_,_,_,_,_,hx| .undef,_,_,_,_,_,_,hx| .na,_,_,_,_,_,_,hx| .eW,_,_,_,_,_,_,hx| .str _,_,_,_,_,_,_,hx| .sl _ _,_,_,_,_,_,_,hx| .pre _ _ _ _,_,_,_,_,_,_,hx| .part _ _ _ _ _,_,_,_,_,_,_,hx
 | .pa _ _ _ _ _,_,_,_,_,_,_,hx| .pb _ _ _,_,_,_,_,_,_,hx| .bp _ _ _,_,_,_,_,_,_,hx| .bR _ _,_,_,_,_,_,_,hx| .fx _ _ _,_,_,_,_,_,_,hx| .mp _,_,_,_,_,_,_,hx=>by cases hx
theorem On {s:List SB} {ps:cU} {z:List Nat} (hS:cX s ps): ∀{v v':List SV} {p:List PV} {seen gQ:List Nat} (nx:Nat),RL s v p->Qk s z seen v=aeP (v',gQ)-> ∃p0 p' q,wj v'=aeP p0/\Kh nx p0=aeP (p',q)/\Nv ps z nx seen p=aeP (p',q,gQ)
 | [],v',p,seen,gQ,nx,h,hx=>by injection hx with hx;injection hx with h1 h2;subst h1 h2;rw [h];exact ⟨_,_,_,rfl,rfl,rfl⟩
 |x::xs,v',p,seen,gQ,nx,h,hx=>by
  obtain ⟨a,as,rfl,h1,h2⟩:=h.cons_inv;simp [Qk] at hx;split at hx
  · rename_i r hr
    split at hx
    · rename_i r2 hr2
      injection hx with hx;injection hx with e1 e2;subst e1 e2;obtain ⟨p0,p',q,k1,k2,k3⟩:=Zc hS nx h1 hr;obtain ⟨p02,p'2,q2,k4,k5,k6⟩:=On hS (nx+aeL q) h2 hr2;exact ⟨p0::p02,p'::p'2,q++q2,fE.2 ⟨_,_,rfl,k1,k4⟩,by simp [Kh,k2,k5],by simp [Nv,k3,k6]⟩
    cases hx
  cases hx
end
mutual
theorem Qw {s:List SB}: ∀{v:SV} {p:PV},R s v p->EE v=aeS->p.ou=aeS
 | .int _ _,p,h,_| .bool _,p,h,_| .str _,p,h,_=>by rw [h];rfl
 | .agg cs,p,h,hn=>by obtain ⟨q,rfl,h⟩:=h;exact Hb h hn
 | .cV cs,p,h,hn=>by obtain ⟨q,rfl,h⟩:=h;exact Hb h hn
 | .jM,_,_,h| .undef,_,_,h| .na,_,_,h| .eW,_,_,h| .sl _ _,_,_,h| .nil _ _,_,_,h| .own _ _,_,_,h| .pre _ _ _ _,_,_,h| .part _ _ _ _ _,_,_,h| .pa _ _ _ _ _,_,_,h| .pb _ _ _,_,_,h| .bp _ _ _,_,_,h| .bR _ _,_,_,h| .fx _ _ _,_,_,h| .mp _,_,_,h=>by cases h
theorem Hb {s:List SB}: ∀{v:List SV} {p:List PV},RL s v p->wG v=aeS->Aq p=aeS
 | [],p,h,_=>by rw [h];rfl
 |x::xs,p,h,hn=>by obtain ⟨a,as,rfl,h1,h2⟩:=h.cons_inv;simp [wG,If] at hn;simp [Aq,Qw h1 hn.1,Hb h2 hn.2,abe]
end
mutual
theorem MG {s:List SB} {u:SV}: ∀{v:SV} {p:PV},R s v p->EE v=aeT->YG s v=aeP u->p.ou=aeT
 | .int _ _,p,h,hn,_| .bool _,p,h,hn,_| .str _,p,h,hn,_=>by cases hn
 | .agg cs,p,h,hn,hi=>by
  obtain ⟨q,rfl,h⟩:=h;simp [YG] at hi;split at hi
  · rename_i l hl;exact EO h hn hl
  cases hi
 | .cV cs,p,h,hn,hi=>by
  obtain ⟨q,rfl,h⟩:=h;simp [YG] at hi;split at hi
  · rename_i l hl;exact EO h hn hl
  cases hi
 | .sl _ _,p,h,_,_=>by rw [h];rfl
 | .nil _ _,p,h,_,_=>by rw [h];rfl
 | .own _ _,p,h,_,_=>by obtain ⟨e,n,rfl,_⟩:=h;rfl
 | .pre _ _ _ _,p,h,_,_=>by obtain ⟨e,rfl,_⟩:=h;rfl
 | .part _ _ _ _ _,p,h,_,_=>by obtain ⟨e,rfl,_⟩:=h;rfl
 | .jM,_,_,_,h| .undef,_,_,_,h| .na,_,_,_,h| .eW,_,_,_,h| .pa _ _ _ _ _,_,_,_,h| .pb _ _ _,_,_,_,h| .bp _ _ _,_,_,_,h| .bR _ _,_,_,_,h| .fx _ _ _,_,_,_,h| .mp _,_,_,_,h=>by cases h
theorem EO {s:List SB}: ∀{v u:List SV} {p:List PV},RL s v p->wG v=aeT->Sx s v=aeP u->Aq p=aeT
 | [],u,p,h,hn,_=>by cases hn
 |x::xs,u,p,h,hn,hi=>by
  obtain ⟨a,as,rfl,h1,h2⟩:=h.cons_inv;simp [Sx] at hi;split at hi
  · rename_i y ys h3 h4
    simp [wG] at hn;simp only [Aq];cases hx:EE x with
    |false=>rw [MG h1 hx h3];rfl
    |true=>rw [hx] at hn;rw [EO h2 (by simpa using hn) h4];simp
  cases hi
end
mutual
theorem aeB {s:List SB} {ps:cU} (hS:cX s ps): ∀{v u:SV} {p:PV},R s v p->YG s v=aeP u-> ∃q,DW ps p=aeP q/\xq u=aeP q
 | .int k n,u,p,h,hx=>by injection hx with hx;subst hx;rw [h];exact ⟨_,rfl,rfl⟩
 | .bool b,u,p,h,hx=>by injection hx with hx;subst hx;rw [h];exact ⟨_,rfl,rfl⟩
 | .str x,u,p,h,hx=>by injection hx with hx;subst hx;rw [h];exact ⟨_,rfl,rfl⟩
 | .agg cs,u,p,h,hx=>by
  obtain ⟨q,rfl,h⟩:=h;simp [YG] at hx;split at hx
  · rename_i l hl
    injection hx with hx;subst hx;obtain ⟨q',h1,h2⟩:=SQ hS h hl;exact ⟨.agg q',by simp only [DW,h1];rfl,by simp [xq,h2]⟩
  cases hx
 | .cV cs,u,p,h,hx=>by
  obtain ⟨q,rfl,h⟩:=h;simp [YG] at hx;split at hx
  · rename_i l hl
    injection hx with hx;subst hx;obtain ⟨q',h1,h2⟩:=SQ hS h hl;exact ⟨.cV q',by simp only [DW,h1];rfl,by simp [xq,h2]⟩
  cases hx
 | .sl r l,u,p,h,hx=>by injection hx with hx;subst hx;rw [h];exact ⟨_,rfl,rfl⟩
 | .nil e c,u,p,h,hx=>by injection hx with hx;subst hx;rw [h];exact ⟨_,rfl,rfl⟩
 | .own t ex,u,p,h,hx=>by
  simp [YG,cJ] at hx;split at hx
  · rename_i r l cO
    injection hx with hx;subst hx;obtain ⟨e,n,rfl,dH⟩:=h;obtain ⟨rfl,rfl⟩:=dH.inv cO;refine ⟨.sl (aeL r) aeT (l.map (RT.pv r)),?_,rfl⟩;simp [DW,hS.arr cO,abo];rw [abl (by simp)]
  cases hx
 | .pre t len cap ex,u,p,h,hx=>by
  simp [YG,cJ] at hx;split at hx
  · rename_i r l cO
    injection hx with hx;subst hx;obtain ⟨e,rfl,dH⟩:=h;have:=dH.inv cO;subst this;refine ⟨.sl (aeL r) aeT ((l.take len).map (RT.pv r)),?_,rfl⟩;simp [DW,hS.arr cO,abo,abn]
  cases hx
 | .part t off len cap ex,u,p,h,hx=>by
  simp [YG,cJ] at hx;split at hx
  · rename_i r l cO
    injection hx with hx;subst hx;obtain ⟨e,rfl,dH⟩:=h;have:=dH.inv cO;subst this;refine ⟨.sl (aeL r) aeT (((l.drop off).take len).map (RT.pv r)),?_,rfl⟩;simp [DW,hS.arr cO,abn,ad6]
  cases hx
 | .jM,_,_,_,hx| .undef,_,_,_,hx| .na,_,_,_,hx| .eW,_,_,_,hx| .pa _ _ _ _ _,_,_,_,hx| .pb _ _ _,_,_,_,hx| .bp _ _ _,_,_,_,hx| .bR _ _,_,_,_,hx| .fx _ _ _,_,_,_,hx| .mp _,_,_,_,hx=>by cases hx
theorem SQ {s:List SB} {ps:cU} (hS:cX s ps): ∀{v u:List SV} {p:List PV},RL s v p->Sx s v=aeP u-> ∃q,Nu ps p=aeP q/\wj u=aeP q
 | [],u,p,h,hx=>by injection hx with hx;subst hx;rw [h];exact ⟨_,rfl,rfl⟩
 |x::xs,u,p,h,hx=>by
  obtain ⟨a,as,rfl,h1,h2⟩:=h.cons_inv;simp [Sx] at hx;split at hx
  · rename_i y ys h3 h4
    injection hx with hx;subst hx;obtain ⟨q,h5,h6⟩:=aeB hS h1 h3;obtain ⟨qs,h7,h8⟩:=SQ hS h2 h4;exact ⟨q::qs,by simp [Nu,h5,h7],fE.2 ⟨_,_,rfl,h6,h8⟩⟩
  cases hx
end
mutual
theorem Zd {s:List SB}: ∀{v:SV} {p:PV},xq v=aeP p->R s v p
 | .int _ _,p,h| .bool _,p,h| .str _,p,h| .eW,p,h| .sl _ _,p,h| .nil _ _,p,h=>by injection h with h;exact h.symm
 | .agg cs,p,h=>by
  simp [xq] at h;split at h
  · rename_i l hl;injection h with h;exact ⟨l,h.symm,Kj hl⟩
  cases h
 | .cV cs,p,h=>by
  simp [xq] at h;split at h
  · rename_i l hl;injection h with h;exact ⟨l,h.symm,Kj hl⟩
  cases h
 | .bR cs o,p,h=>by
  simp [xq] at h;split at h
  · rename_i l hl;injection h with h;exact ⟨l,h.symm,Kj hl⟩
  cases h
 | .fx f a b,p,h=>by
  simp [xq] at h;split at h
  · rename_i x y h1 h2;injection h with h;exact ⟨x,y,h.symm,Kj h1,Kj h2⟩
  cases h
 | .jM,_,h| .undef,_,h| .na,_,h| .own _ _,_,h| .pre _ _ _ _,_,h| .part _ _ _ _ _,_,h| .pa _ _ _ _ _,_,h| .pb _ _ _,_,h| .bp _ _ _,_,h| .mp _,_,h=>by cases h
theorem Kj {s:List SB}: ∀{v:List SV} {p:List PV},wj v=aeP p->RL s v p
 | [],p,h=>by injection h with h;exact h.symm
 |x::xs,p,h=>by obtain ⟨a,as,rfl,h1,h2⟩:=fE.1 h;exact RL.cons (Zd h1) (Kj h2)
end
def aeC (kd:Kd) (n:Nat) (tk:List Nat) (v:SV) (r:tz):Prop:=
 match kd with
 | .pure=> ∃p,xq v=aeP p/\r={v:=p,rd:=tk}
 | .jS=> ∃p,xq v=aeP p/\r={v:=p,rd:=tk,fr:=tk}
 | .own=> ∃p0 p q,xq v=aeP p0/\Kg n p0=aeP (p,q)/\r={v:=p,news:=q,rd:=tk}
def jj (F : p8) (f : FuncId) (c : D7) : Prop :=
  ∀ (a : c.α) (b : c.β) (as args : List PV) (aA : cU) (fz : List Nat), c.fn a = aeP b -> wj (c.args.enc a) = aeP args -> GH aA (B0 aA deep) as = aeP args ->
    ∃ n r, ez F (run F n) c.ow f as aA fz = aeP r /\ aeC c.kd (aeL aA) (eJ (fS aA deep) as) (c.res.enc b) r
def fb.va (c:fb) (a:kv c.ka):List SV:=(wH c.ta (pT c.ka a)).1
def fb.sa (c:fb) (a:kv c.ka):List SB:=(EG c.tb (wH c.ta (pT c.ka a)).2).1
def fb.vb (c:fb) (b:kv c.ko):SV:=(y8 c.tv (pT c.ko b)).1
def fb.sb (c:fb) (b:kv c.ko):List SB:=(EG c.to (y8 c.tv (pT c.ko b)).2).1
def Ze:SB->SB->Prop
 | .arr r l,.arr q m=>r=q/\aeL m=aeL l
 | .box _,.box _=>True
 | .set _,.set _=>True
 | .nB _ _,.nB _ _=>True
 | .dead,.dead=>True
 |_,_=>False
def nC (F : p8) (f : FuncId) (c : fb) : Prop :=
  ∀ (a : kv c.ka) (b : kv c.ko) (pa : List PV) (ps : cU), c.fn a = aeP b -> RL (c.sa a) (c.va a) pa -> cX (c.sa a) ps ->
    ∃ n v s, run F n (.func f pa ps []) = aeP (.func v s []) /\ j9 (c.sa a).length v s = aeS /\ R (c.sb b) (c.vb b) v /\ cX (c.sb b) (s.take (c.sa a).length) /\ (c.sb b).length = (c.sa a).length /\
      ∀ (t : Nat) (x y : SB), (c.sa a)[t]? = aeP x -> (c.sb b)[t]? = aeP y -> Ze x y
def AN (F:p8):List (Nat×D7)->Prop
 | []=>True
 |(f,c)::r=>jj F f c/\AN F r
def H7 (F:p8):List (Nat×fb)->Prop
 | []=>True
 |(f,c)::r=>nC F f c/\H7 F r
def AO (F:p8):List (Nat×Cd)->Prop
 | []=>True
 |(f,x)::r=>F f=aeP x.ent/\AO F r
structure vu (F:p8) (cx:Ctx):Prop where
 con: ∀f c,c∈cx.con f->jj F f c
 fpc: ∀f c,c∈cx.fpc f->nC F f c
 code: ∀f x,cx.code f=aeP x->F f=aeP x.ent
theorem AN.mem {F:p8}: ∀{l:List (Nat×D7)},AN F l-> ∀f c,c∈Mz l f->jj F f c
 | [],_,f,c,h=>by cases h
 |(g,d)::r,hl,f,c,h=>by
  simp [Mz] at h;cases hb:ab4 g f with
  |true=>
   rw [hb] at h;have:=EQ hb;subst this;rcases h with _|⟨_,h⟩
   · exact hl.1
   exact AN.mem hl.2 _ c h
  |false=>rw [hb] at h;exact AN.mem hl.2 f c h
theorem H7.mem {F:p8}: ∀{l:List (Nat×fb)},H7 F l-> ∀f c,c∈MA l f->nC F f c
 | [],_,f,c,h=>by cases h
 |(g,d)::r,hl,f,c,h=>by
  simp [MA] at h;cases hb:ab4 g f with
  |true=>
   rw [hb] at h;have:=EQ hb;subst this;rcases h with _|⟨_,h⟩
   · exact hl.1
   exact H7.mem hl.2 _ c h
  |false=>rw [hb] at h;exact H7.mem hl.2 f c h
theorem AO.mem {F:p8}: ∀{l:List (Nat×Cd)},AO F l-> ∀f x,J0 l f=aeP x->F f=aeP x.ent
 | [],_,f,c,h=>by cases h
 |(g,d)::r,hl,f,c,h=>by
  simp [J0] at h;cases hb:ab4 g f with
  |true=>rw [hb] at h;have:=EQ hb;subst this;injection h with h;subst h;exact hl.1
  |false=>rw [hb] at h;exact AO.mem hl.2 f c h
theorem vu.make {F:p8} {lp:Option Nat} {c:List (Nat×D7)} {p:List (Nat×fb)} {x:List (Nat×Cd)} {rk:List (Nat×List PT)} (h1:AN F c) (h2:H7 F p) (h3:AO F x):vu F (BU lp c p x rk):=
 ⟨h1.mem,h2.mem,h3.mem⟩
theorem vu.ajr {F:p8} {lp:Option Nat} {c:List (Nat×D7)} {p:List (Nat×fb)} {x:List (Nat×Cd)} {rk:List (Nat×List PT)} (h1:AN F c) (h2:H7 F p) (h3:AO F x):vu F (aev lp c p x rk):=
 ⟨h1.mem,h2.mem,h3.mem⟩
section
variable {F : p8} {R' ρ : Type} {w : R' -> ρ} {y : ρ} {s : List SB} {ps : cU} {z : List Nat}
theorem Cv {f:FuncId} {m:Bool} {tk:List Nat} {vs:List SV} {k:XRS->jc R'} (hS:cX s ps) {as args:List PV} (hx:GH ps (B0 ps deep) as=aeP args) (hv:wj vs=aeP args) (LG:tk=eJ (fS ps deep) as):
 ∀{l:List D7},(∀c∈l,jj F f c)->SD f m s tk vs k l ρ w=aeP y-> ∃sr pr,(∃n,ez F (run F n) m f as ps z=aeP pr)/\Good s ps sr pr/\k (.loc sr) ρ w=aeP y
 | [],_,h=>by cases h
 |c::l,hl,h=>by
  simp [SD] at h;cases hd:c.args.dec vs with
  |none=>rw [hd] at h;exact Cv hS hx hv LG (fun c hc=>hl c (abD _ hc)) h
  |some a=>
   rw [hd] at h;cases hmo:(m==c.ow) with
   |false=>rw [hmo] at h;exact Cv hS hx hv LG (fun c hc=>hl c (abD _ hc)) h
   |true=>
   rw [hmo] at h;obtain ⟨b,hb,h2⟩:=dd h;have hm:m=c.ow:=by simpa using hmo
   subst hm;have aok:=c.args.law hd hv;obtain ⟨n,r,hr,FC⟩:=hl c (abz ..) a b as args ps z hb aok hx;cases hkd:c.kd with
   |pure=>rw [hkd] at h2 FC;obtain ⟨p,h3,rfl⟩:=FC;exact ⟨_,_,⟨n,hr⟩,by grind [Good.val,Zd],h2⟩
   |jS=>rw [hkd] at h2 FC;obtain ⟨p,h3,rfl⟩:=FC;exact ⟨_,_,⟨n,hr⟩,by grind [Good.val,Zd],h2⟩
   |own=>
    rw [hkd] at h2 FC;obtain ⟨p0,p,q,h3,h4,rfl⟩:=FC;rw [hS.len] at h4;have hbh:AM (s++(Cn (aeL s) (c.res.enc b)).2) (aeL s) (Cn (aeL s) (c.res.enc b)).2:=fun j x hj=>by
     grind
    obtain ⟨k1,k2⟩:=UJ h3 h4 hbh;exact ⟨_,_,⟨n,hr⟩,by rw [<- LG];exact Good.news hS k2.1 k2.2 k1,h2⟩
end
end Go.Vm
/- A call of a function that works on the blocks that are lent to it. -/
namespace Go.Vm
def xw {α:Type}:List (Nat×α)->List α->List α
 | [],s=>s
 |(t,b)::r,s=>xw r (s.set t b)
theorem AP: ∀(l:List _) (s:List SB),xt l s=xw l s
 | [],s=>rfl
 |(t,b)::r,s=>by simp [xt,xw,FN,AP r]
theorem H8: ∀(l:List _) (s:cU),ly l s=xw l s
 | [],s=>rfl
 |(t,b)::r,s=>by simp [ly,xw,H8 r]
theorem EP {α:Type}: ∀(l:List _) (s:List α),(xw l s).length=aeL s
 | [],s=>rfl
 |(t,b)::r,s=>by simp [xw,EP r]
theorem AQ {α:Type}: ∀(l:List _) (s:List α) (t:Nat),t∉l.map (·.1)->(xw l s)[t]? =s[t]?
 | [],s,t,_=>rfl
 |(u,b)::r,s,t,h=>by
  simp only [abf,List.mem_cons,not_or] at h;simp [xw];rw [AQ r _ t h.2,ab1]
  grind
theorem Hc {α:Type}: ∀(l:List _) (s:List α) (j t:Nat) (b:α),(l.map (·.1)).Nodup->l[j]? =aeP (t,b)->t<aeL s->(xw l s)[t]? =aeP b
 | [],s,j,t,b,_,h,_=>by simp at h
 |(u,c)::r,s,0,t,b,hn,h,ht=>by
  simp [xw]
  grind [AQ]
 |(u,c)::r,s,j+1,t,b,hn,h,ht=>by simp [] at hn;exact Hc r _ j t b hn.2 (by simpa using h) (by simpa using ht)
theorem FX: ∀(l:List _),FL l=l.map (·.1)
 | []=>rfl
 |(t,b)::r=>by simp [FL,FX r]
theorem MH (g:Nat->Nat): ∀(tk:List Nat) (s:List SB),aeL s=aeL tk->(D8 g tk s).map (·.1)=tk/\ ∀(j t:Nat) (b:SB),tk[j]? =aeP t->s[j]? =aeP b->(D8 g tk s)[j]? =aeP (t,YN g b)
 | [],s,h=>⟨by simp [D8],fun j t b hj=>by simp at hj⟩
 |t::tk,[],h=>by simp at h
 |t::tk,b::s,h=>by
  obtain ⟨h1,h2⟩:=MH g tk s (by simpa using h);refine ⟨by simp [D8,h1],fun j u c hj hc=>?_⟩;cases j with
  |zero=>simp at hj hc;subst hj hc;rfl
  |succ j=>simp [D8,];grind
theorem Kk (g:Nat->Nat): ∀(tk:List Nat) (s:cU),aeL tk<=aeL s->(tN g tk s).map (·.1)=tk/\ ∀(j t:Nat) (b:om),tk[j]? =aeP t->s[j]? =aeP b->(tN g tk s)[j]? =aeP (t,DX g b)
 | [],s,h=>⟨by simp [tN],fun j t b hj=>by simp at hj⟩
 |t::tk,[],h=>by simp at h
 |t::tk,b::s,h=>by
  obtain ⟨h1,h2⟩:=Kk g tk s (by simpa using h);refine ⟨by simp [tN,h1],fun j u c hj hc=>?_⟩;cases j with
  |zero=>simp at hj hc;subst hj hc;rfl
  |succ j=>simp [tN,];grind
theorem MI: ∀{l:List _},(l.map (·.1)).Nodup->As l=aeS
 | [],_=>rfl
 |p::r,h=>by
  simp [] at h;simp [As,];refine ⟨fun q hq=>?_,MI h.2⟩
  grind [EQ]
theorem Oo: ∀(s:List SB),IH [] s=s
 | []=>rfl
 |b::r=>by simp [IH,Oo r];cases b<;>simp [dgB,yk]
theorem Qx (s:List SB) (r:iC):r.rh s=IH (FL r.wr) (xt r.wr s)++r.news:=by
 unfold iC.rh;split
 · rename_i h;rw [h];simp [FL,xt,Oo,pY]
 simp [pY]
def afX (g:Nat->Nat) (s s2:List SB):Prop:= ∀(u:Nat) (x:SB),s[u]? =aeP x->match x with
 | .arr r l=>s2[g u]? =aeP (.arr r l)
 | .dead=>s2[g u]? =aeP .dead
 | .box _=> ∃cs,s2[g u]? =aeP (.box cs)
 |_=>True
mutual
theorem UK {g:Nat->Nat} {s s2:List SB} (hb:afX g s s2): ∀{v:SV} {p:PV},R s v p->R s2 (Qm g v) (GI g p)
 | .jM,_,_=>trivial
 | .undef,p,h| .na,p,h| .eW,p,h| .int _ _,p,h| .bool _,p,h| .str _,p,h| .sl _ _,p,h| .nil _ _,p,h| .bp _ _ _,p,h| .mp _,p,h=>by rw [show p=_ from h];rfl
 | .agg cs,p,h=>by obtain ⟨q,rfl,h⟩:=h;exact ⟨_,rfl,AR hb h⟩
 | .cV cs,p,h=>by obtain ⟨q,rfl,h⟩:=h;exact ⟨_,rfl,AR hb h⟩
 | .bR cs o,p,h=>by obtain ⟨q,rfl,h⟩:=h;exact ⟨_,rfl,AR hb h⟩
 | .fx f a b,p,h=>by obtain ⟨pa,pb,rfl,h1,h2⟩:=h;exact ⟨_,_,rfl,AR hb h1,AR hb h2⟩
 | .own t ex,p,h=>by
  obtain ⟨e,n,rfl,dH⟩:=h;refine ⟨e,n,rfl,?_⟩;rcases dH with ⟨r,l,h1,h2,h3⟩|h1
  · exact .inl ⟨r,l,hb t _ h1,h2,h3⟩
  exact .inr (hb t _ h1)
 | .pre t a b c,p,h=>by
  obtain ⟨e,rfl,dH⟩:=h;refine ⟨e,rfl,?_⟩;rcases dH with ⟨r,l,h1,h2⟩|h1|⟨cs,h1,h2⟩
  · exact .inl ⟨r,l,hb t _ h1,h2⟩
  · exact .inr (.inl (hb t _ h1))
  obtain ⟨c2,h3⟩:=hb t _ h1
  exact .inr (.inr ⟨c2,h3,h2⟩)
 | .part t o a b c,p,h=>by
  obtain ⟨e,rfl,dH⟩:=h;refine ⟨e,rfl,?_⟩;rcases dH with ⟨r,l,h1,h2⟩|h1|⟨cs,h1,h2⟩
  · exact .inl ⟨r,l,hb t _ h1,h2⟩
  · exact .inr (.inl (hb t _ h1))
  obtain ⟨c2,h3⟩:=hb t _ h1
  exact .inr (.inr ⟨c2,h3,h2⟩)
 | .pa t r i a o,p,h=>by
  obtain ⟨rfl,dH⟩:=h;refine ⟨_,rfl,?_⟩;rcases dH with ⟨l,h1,h2⟩|h1
  · exact .inl ⟨r,l,hb t _ h1,by rw [h2];rfl⟩
  exact .inr (hb t _ h1)
 | .pb t i o,p,h=>by
  obtain ⟨e,rfl,dH⟩:=h;refine ⟨e,rfl,?_⟩;rcases dH with ⟨r,l,h1,h2⟩|h1
  · exact .inl ⟨r,l,hb t _ h1,h2⟩
  exact .inr (hb t _ h1)
theorem AR {g:Nat->Nat} {s s2:List SB} (hb:afX g s s2): ∀{v:List SV} {p:List PV},RL s v p->RL s2 (HY g v) (BA g p)
 | [],p,h=>by rw [show p=_ from h];rfl
 |x::xs,p,h=>by obtain ⟨a,as,rfl,h1,h2⟩:=h.cons_inv;exact RL.cons (UK hb h1) (AR hb h2)
end
theorem Kl: ∀{a b:cU},(∀(t:Nat) (x:om),a[t]? =aeP x-> ∃y,b[t]? =aeP y/\x.bW=y.bW)->Ar a b=aeS
 | [],b,_=>by cases b<;>rfl
 |x::a,[],h=>by obtain ⟨y,hy,_⟩:=h 0 x rfl;simp at hy
 |x::a,y::b,h=>by obtain ⟨y',h1,h2⟩:=h 0 x rfl;simp at h1;subst h1;have:=Kl (fun t x hx=>by simpa using h (t+1) x (by simpa using hx));simp [Ar,this,h2];cases y.bW<;>rfl
section
variable {F : p8} {R' ρ : Type} {w : R' -> ρ} {y : ρ} {s : List SB} {ps : cU} {z : List Nat}
theorem UL {f:FuncId} {tk:List Nat} {SS vs:List SV} {s0:List SB} {k:XRS->jc R'} (hS:cX s ps) {pas:List PV} (hv:RL s SS pas) (LG:tk=tL (eJ (fS ps deep) pas)) (hz:(tk.all fun t=>!has z t)=aeS)
 (h1:yj tk SS=aeP vs) (h2:LS s tk tk=aeP s0):
 ∀{l:List fb},(∀c∈l,nC F f c)->fpS f (aeL s) tk vs s0 k l ρ w=aeP y-> ∃sr pr,(∃n,yT (run F n) f pas ps z=aeP pr)/\Good s ps sr pr/\k (.loc sr) ρ w=aeP y
 | [],_,h=>by cases h
 |c::l,hl,h=>by
  have next:fpS f (aeL s) tk vs s0 k l ρ w=aeP y-> ∃sr pr,(∃n,yT (run F n) f pas ps z=aeP pr)/\Good s ps sr pr/\k (.loc sr) ρ w=aeP y:=
   fun h=>UL hS hv LG hz h1 h2 (fun c hc=>hl c (abD _ hc)) h
  simp only [fpS] at h;cases Ap:(Cp c.ta vs&&JY c.tb s0) with
  |false=>grind
  |true=>
   rw [Ap] at h;simp only [v6] at h;cases hpo:oK c.ka (G4 vs++Oa s0) with
   |none=>simp_all
   |some a=>
    rw [hpo] at h;obtain ⟨b,hb,h3⟩:=dd h;simp only [If] at Ap;have LF:=tY hpo;have hva:c.va a=vs:=by unfold fb.va;rw [LF,ss _ Ap.1]
    have hsa:c.sa a=s0:=by
     unfold fb.sa;rw [LF,ss _ Ap.1];have:=FW [] Ap.2
     grind
    have LK:Kf tk s s0:=by have:=Kf.of (l:=[]) h2;grind
    obtain ⟨pa',a1,a2⟩:=yo LK hv h1;obtain ⟨p0,b1,b2,b3⟩:=G8 hS LK h2;have Pr:cX s0 p0:=⟨b2,b3⟩;obtain ⟨ajs,ajt⟩:=Cu h2;obtain ⟨n,v,sr,r1,r2,r3,r4,r5,r6⟩:=hl c (abz ..) a b pa' p0 hb (by grind) (by grind);rw [hsa] at r2 r4 r5 r6;have LH:tk.Nodup:=by rw [LG];exact yh
    have VT: ∀t∈tk,t<(aeL s):=fun t ht=>by
     obtain ⟨j,hj,he⟩:=abG ht;obtain ⟨x,c',d1,_,_⟩:=ajt j t (by rw [PP hj,he])
     grind
    have aom:(c.sb b).length=(aeL tk):=by rw [r5,ajs]
    have aon:(aeL tk)<=(aeL sr):=by
     have:=r4.len
     grind
    have Ka: ∀j,j<aeL tk->(sr.take (aeL s0))[j]? =sr[j]?:=fun j hj=>NE (by omega)
    have X9:Ar p0 sr=aeS:=Kl (fun t x hx=>by
     have aoo:t<(aeL s0):=by grind
     obtain ⟨x0,N3⟩: ∃x0,s0[t]? =aeP x0:=⟨s0[t],PP aoo⟩;obtain ⟨q,q1,q2⟩:=b3 t x0 N3;rw [hx] at q1;injection q1 with q1;subst q1;obtain ⟨y0,Wn⟩: ∃y0,(c.sb b)[t]? =aeP y0:=⟨(c.sb b)[t]'(by omega),PP (by omega)⟩;obtain ⟨q',q3,q4⟩:=r4.at_ t y0 Wn;rw [Ka t (by omega)] at q3;refine ⟨q',q3,?_⟩;have Pq:=r6 t x0 y0 N3 Wn;cases x0 with
     |arr r l=>cases y0 with
      |arr r' l'=>obtain ⟨rfl,Fi⟩:=Pq;rw [q2,q4];cases l<;>cases l'<;>simp_all [om.bW]
      |_=>exact Pq.elim
     |box cs=>cases y0 with
      |box Mb=>obtain ⟨_,rfl,_⟩:=q2;obtain ⟨_,rfl,_⟩:=q4;rfl
      |_=>exact Pq.elim
     |set l=>cases y0 with
      |set l'=>rw [q2,q4];rfl
      |_=>exact Pq.elim
     |nB p l=>cases y0 with
      |nB p' l'=>rw [q2,q4];rfl
      |_=>exact Pq.elim
     |dead=>cases y0 with
      |dead=>rw [q2,q4]
      |_=>exact Pq.elim)
    let g:=nA tk (aeL s)
    have hg: ∀j t,tk[j]? =aeP t->g j=t:=fun j t hj=>by show nA tk (aeL s) j=t;unfold nA;rw [hj]
    obtain ⟨w1,w2⟩:=MH g tk (c.sb b) aom;obtain ⟨u1,u2⟩:=Kk g tk sr aon
    let s2:=IH tk (xt (D8 g tk (c.sb b)) s)
    have D1: ∀(j t:Nat) (x:SB),tk[j]? =aeP t->(c.sb b)[j]? =aeP x->s2[t]? =aeP (dgB tk (YN g x)):=fun j t x hj hx=>by show (IH tk _)[t]? =_;rw [wJ,AP,Hc _ s j t _ (by grind) (w2 j t x hj hx) (VT t (abu hj))];rfl
    have afY: ∀(t:Nat),t∉tk->s2[t]? =(s[t]?).map (dgB tk):=fun t ht=>by
     grind [wJ,AP,AQ]
    have ID: ∀t∈tk,∃j,tk[j]? =aeP t:=fun t ht=>by obtain ⟨j,hj,he⟩:=abG ht;exact ⟨j,by rw [PP hj,he]⟩
    have yX:Fr tk s s2:=fun t x hx=>by
     by_cases ht:t∈tk
     · obtain ⟨j,hj⟩:=ID t ht
       have R5:=(IR.1 hj).1;obtain ⟨x',c',d1,d2,d3⟩:=ajt j t hj;rw [hx] at d1;injection d1 with d1;subst d1;obtain ⟨y0,Wn⟩: ∃y0,(c.sb b)[j]? =aeP y0:=⟨(c.sb b)[j]'(by omega),PP (by omega)⟩;have Pq:=r6 j c' y0 d3 Wn;have hs2:=D1 j t y0 hj Wn;cases x with
       |arr r l=>
        injection d2 with d2;subst d2;cases y0 with
        |arr r' l'=>
         obtain ⟨rfl,Fi⟩:=Pq;refine .inl ⟨l',hs2,Fi,fun hb=>?_⟩;exfalso;have:has tk t=aeS:=by unfold has;rw [List.any_eq_true];exact ⟨t,ht,by simp⟩
         rw [this] at hb;cases hb
        |_=>exact Pq.elim
       |dead=>
        injection d2 with d2;subst d2;cases y0 with
        |dead=>exact hs2
        |_=>exact Pq.elim
       |box cs=>
        simp only [Sy] at d2;split at d2
        · injection d2 with d2;subst d2
          cases y0 with
          |box c2=>exact .inl ⟨_,hs2⟩
          |_=>exact Pq.elim
        cases d2
       |_=>trivial
     have:=afY t ht
     rw [hx] at this;cases x with
     |arr r l=>exact .inl ⟨l,this,rfl,fun _=>rfl⟩
     |dead=>exact this
     |box c2=>exact .inl ⟨_,this⟩
     |_=>trivial
    have aeD:afX g (c.sb b) s2:=fun u x hx=>by
     have hul:u<(aeL tk):=by have:=(IR.1 hx).1;omega
     have hj:=PP hul;have:=D1 u _ x hj hx;rw [hg u _ hj];cases x with
     |arr r l=>exact this
     |dead=>exact this
     |box cs=>exact ⟨_,this⟩
     |_=>trivial
    have aop:(∃n,yT (run F n) f pas ps z=aeP {v:=GI g v,wr:=tN g tk sr}):=by
     refine ⟨n,?_⟩;unfold yT abp;rw [<- LG,AC hz,a1,b1];dsimp only;rw [r1];dsimp only;unfold Ji;rw [AC X9,hS.len];have:j9 (aeL tk) v sr=aeS:=by rw [<- ajs];exact r2
     rw [AC this]
    refine ⟨{v:=Qm g (c.vb b),wr:=D8 g tk (c.sb b)},_,aop,?_,h3⟩;have cO:iC.rh s {v:=Qm g (c.vb b),wr:=D8 g tk (c.sb b)}=s2:=by rw [Qx,abd,FX,w1]
    exact {
     rd:=rfl
     fr:=rfl
     wr:=by rw [FX,w1];exact u1
     nw:=MI (by rw [u1];exact LH)
     nl:=rfl
     aA:=by
      rw [cO];show cX s2 (ly (tN g tk sr) ps);rw [H8];refine ⟨by rw [EP,AH,AP,EP,hS.len],fun t x hx=>?_⟩
      by_cases ht:t∈tk
      · obtain ⟨j,hj⟩:=ID t ht
        have R5:=(IR.1 hj).1;obtain ⟨y0,Wn⟩: ∃y0,(c.sb b)[j]? =aeP y0:=⟨(c.sb b)[j]'(by omega),PP (by omega)⟩;have hs2:=D1 j t y0 hj Wn;rw [hx] at hs2;injection hs2 with hs2;subst hs2;obtain ⟨q',q3,q4⟩:=r4.at_ j y0 Wn;rw [Ka j R5] at q3;refine ⟨DX g q',Hc _ ps j t _ (by rw [u1];exact LH) (u2 j t q' hj q3) (by rw [hS.len];exact VT t ht),?_⟩;cases y0 with
        |box cs=>obtain ⟨pc,rfl,hpc⟩:=q4;exact ⟨_,rfl,RL.fr (Fr.refl tk s2) (AR aeD hpc)⟩
        |arr r l=>rw [q4];rfl
        |set l=>rw [q4];rfl
        |nB p l=>rw [q4];rfl
        |dead=>rw [q4];rfl
      rw [afY t ht,aaE] at hx
      obtain ⟨x0,N3,rfl⟩:=hx;obtain ⟨q,q1,q2⟩:=hS.at_ t x0 N3;exact ⟨q,by rw [AQ _ ps t (by rw [u1];exact ht)];exact q1,q2.fr yX⟩
     v:=by rw [cO];exact UK aeD r3
     fra:=by rw [cO,FX,w1];exact yX}
end
end Go.Vm
/- What the typed machine makes of a function is what the logical machine runs. -/
namespace Go.Vm
section
variable {F : p8}
theorem WO.afZ {o:ck} {r:List ck} {st:St} {tr:List Tr} {Q:St->List Tr->Prop} {f:FuncId} {args:List PV}
 (hw:wanted o.guard st.env=aeP aeS) (iA: ∀n,BB F (run F n) st.env st.aA st.fz o.op=iB (run F n) f args st.aA st.fz)
 (h:Er F f args st.aA st.fz fun v s z=>(aa9 (aeL st.aA) (aeL s)&&st.fz.all (has z))=aeS/\WO F r {st with env:=kY o.dst v st.env,aA:=s,fz:=z} (YM::tr) Q):
 WO F (o::r) st tr Q:=by
 obtain ⟨n,v,s,z,hr,hc,hk⟩:=h;refine WO.call (.shr v s z) hw ⟨n,?_⟩ rfl hk;rw [iA];simp only [iB,hr];rw [AC hc]
theorem WP.again {live:List _} {b:lY} {st s1:St} {Q:jQ->St->Prop} (h0:norm live st=aeP s1) (h:WP F b s1 (andThen (fun s=>WP F (.loop live b) s Q) Q)):WP F (.loop live b) st Q:=by
 obtain ⟨m,e,s,he,hq⟩:=h;cases e with
 |normal=>
  obtain ⟨k,e',s',Pm,XK⟩:=hq;refine ⟨max m k+1,e',s',?_,XK⟩;simp [zq] at Pm ⊢;rw [oF];simp [step,h0];rw [xf (.refl _ _) (vj F (Nat.le_max_left m k)) _ _ _ he];dsimp only;split at Pm
  · rename_i e1 s1 hr1
    rw [vj F (Nat.le_max_right m k) _ _ hr1];exact Pm
  cases Pm
 |exit i=>exact ⟨m+1,.exit i,s,by simp [zq];rw [oF];simp [step,h0,he],hq⟩
 |ret=>exact ⟨m+1,.ret,s,by simp [zq];rw [oF];simp [step,h0,he],hq⟩
def Qy (F : p8) (inl : Inl) : Prop :=
  ∀ (f : FuncId) (args : List SV) (s : List SB) (z : List Nat) (R' : Type) (k : SV -> List SB -> List Nat -> jc R') (ρ : Type) (w : R' -> ρ) (y : ρ) (pa : List PV) (ps : cU) (Q : R' -> PV -> cU -> List Nat -> Prop),
    RL s args pa -> cX s ps -> inl f args s z R' k ρ w = aeP y ->
    (∀ v s' z' p Cw BY (w' : R' -> BY) y', R s' v p -> cX s' Cw -> k v s' z' BY w' = aeP y' -> ∃ r, y' = w' r /\ Q r p Cw z') ->
    ∃ r, y = w r /\ Er F f pa ps z (fun p Cw z' => Q r p Cw z')
def UM:SB->SB->Prop
 | .arr r l,b=>(∃l',b= .arr r l'/\aeL l'=aeL l)\/b= .dead
 | .dead,b=>b= .dead
 | .box _,b=>(∃cs,b= .box cs)\/b= .dead
 |_,_=>True
theorem FY {R' ρ:Type} {w:R'->ρ} {y:ρ}: ∀{s s':List SB} {k:jc R'},wI s s' k ρ w=aeP y->k ρ w=aeP y/\aeL s<=aeL s'/\
 ∀(t:Nat) (b:SB),s[t]? =aeP b-> ∃b',s'[t]? =aeP b'/\UM b b'
 | [],s',k,h=>⟨by cases s'<;>exact h,Nat.zero_le _,fun t b ht=>by simp at ht⟩
 |x::xs,[],k,h=>by cases h
 |x::xs,y'::ys,k,h=>by
  have step: ∀(_:wI xs ys k ρ w=aeP y) (_:UM x y'),k ρ w=aeP y/\(x::xs).length<=(y'::ys).length/\ ∀(t:Nat) (b:SB),(x::xs)[t]? =aeP b-> ∃b',(y'::ys)[t]? =aeP b'/\UM b b':=by
   intro h hx;obtain ⟨h1,h2,h3⟩:=FY h
   grind
  cases x with
  |arr r l=>
   cases y' with
   |arr q m=>obtain ⟨hr,h2⟩:=de h;obtain ⟨hl,h3⟩:=kx h2;have:=Ck hr;subst this;exact step h3 (.inl ⟨m,rfl,by simpa using hl⟩)
   |dead=>exact step h (.inr rfl)
   |_=>cases h
  |dead=>
   cases y' with
   |dead=>exact step h rfl
   |_=>cases h
  |box cs=>
   cases y' with
   |box c2=>exact step h (.inl ⟨c2,rfl⟩)
   |dead=>exact step h (.inr rfl)
   |_=>cases h
  |set l=>exact step h trivial
  |nB p l=>exact step h trivial
theorem Zf {n t:Nat} (h:t<n):has (zw n) t=aeS:=by
 induction n with
 |zero=>omega
 |succ n ih=>
  unfold has at ih ⊢;simp only [zw,];rcases abA t n with h1|h1
  · grind
  have:t=n:=by omega
  simp_all
theorem SU {s s':List SB} (h: ∀(t:Nat) (b:SB),s[t]? =aeP b-> ∃b',s'[t]? =aeP b'/\UM b b'):Fr (zw (aeL s)) s s':=fun t b hb=>by
 obtain ⟨b',h1,h2⟩:=h t b hb;cases b with
 |arr r l=>
  rcases h2 with ⟨l',rfl,h3⟩|rfl
  · grind [Zf]
  exact .inr h1
 |dead=>rw [h2] at h1;exact h1
 |box cs=>
  rcases h2 with ⟨c2,rfl⟩|rfl
  · grind
  exact .inr h1
 |_=>trivial
theorem aju {s:List SB} {ps:cU} {sr:iC} {pr:tz} (G:Good s ps sr pr) (hS:cX s ps):(XR.loc pr).tr (aeL ps)=sr.tr (aeL s):=by
 simp only [XR.tr,iC.tr,G.rd,G.fr,hS.len,<- G.wr,G.nl,aeI];have:pr.news.isEmpty=sr.news.isEmpty:=by have:=G.nl;cases h1:pr.news<;>cases h2:sr.news<;>simp_all
 rw [this];rfl
theorem af0 {st:tT} {p:St} (h:Dp st p) {sr:iC} {pr:tz} (G:Good st.aA p.aA sr pr) (d:Option Nat):Dp (sr.next d st) ((XR.loc pr).next d p):=by
 have acq: ∀{s:List SB} {e:SE} {pe:Env} {v:SV} {q:PV},eQ s e pe->R s v q->eQ s (Of d v e) (kY d q pe):=by
  intro s e pe v q he hv;cases d with
  |none=>exact he
  |some t=>exact ⟨q,pe,rfl,hv,he⟩
 have hs:=Qx st.aA sr;unfold iC.next
 split
 · rename_i hw
   rw [hw] at hs;simp [FL,Oo] at hs;have Ax:=G.aA;have hv:=G.v;have yX:=G.fra;rw [hs] at Ax hv yX;rw [hw] at yX;exact ⟨by simp [pY];exact acq (eQ.ext yX h.env) hv,by simp [pY];exact Ax,by simp [XR.next,G.fr,h.fz],h.kn⟩
 have Ax:=G.aA
 have hv:=G.v;have yX:=G.fra;rw [hs] at Ax hv yX;exact ⟨by simp [pY];exact acq (eQ.fr yX h.env) hv,by simp [pY];exact Ax,by simp [XR.next,G.fr,h.fz],h.kn⟩
theorem ok_eq {s:List SB} {ps:cU} {sr:iC} {pr:tz} (G:Good s ps sr pr) {z:List Nat} (h:sr.ok z=aeS):(XR.loc pr).ok z=aeS:=by simp only [XR.ok,G.nw,adX];unfold iC.ok at h;rw [<- G.wr,aeI] at h;exact h
section
variable {cx : Ctx} {inl : Inl} {R' : Type}
def aor (_F:p8) (k:tT->List Tr->jc R') (Q:R'->St->List Tr->Prop):Prop:=
 ∀st p tr ρ (w:R'->ρ) y,Dp st p->k st tr ρ w=aeP y-> ∃r,y=w r/\Q r p tr
theorem AS {o:ck} {l:List ck} {st:tT} {p:St} {tr:List Tr} {k:tT->List Tr->jc R'} {ρ:Type} {w:R'->ρ} {y:ρ} {Q:R'->St->List Tr->Prop}
 (hl: ∀st p tr ρ (w:R'->ρ) y,Dp st p->k st tr ρ w=aeP y-> ∃r,y=w r/\WO F l p tr (Q r)) (h:Dp st p) {sr:iC} {pr:tz} (hw:wanted o.guard p.env=aeP aeS)
 (hx: ∃n,BB F (run F n) p.env p.aA p.fz o.op=aeP (.loc pr)) (G:Good st.aA p.aA sr pr) (hg:XH o.dst st tr k (.loc sr) ρ w=aeP y): ∃r,y=w r/\WO F (o::l) p tr (Q r):=by
 obtain ⟨Av,hg⟩:=de hg;rw [N7] at hg;have hR:=af0 h G o.dst;obtain ⟨r,hr,hwo⟩:=hl _ _ _ _ _ _ hR hg;refine ⟨r,hr,WO.call _ hw hx (by rw [h.fz];exact ok_eq G Av) ?_⟩;rw [aju G h.aA];exact hwo
theorem Qz (II:vu F cx) (Oq:Qy F inl) {o:ck} {l:List ck} {st:tT} {p:St} {tr:List Tr} {k:tT->List Tr->jc R'} {ρ:Type} {w:R'->ρ} {y:ρ} {Q:R'->St->List Tr->Prop}
 (hl: ∀st p tr ρ (w:R'->ρ) y,Dp st p->k st tr ρ w=aeP y-> ∃r,y=w r/\WO F l p tr (Q r)) (h:Dp st p) (hw:wanted o.guard p.env=aeP aeS)
 (hg:Mv cx inl st.env st.aA st.fz o.op (XH o.dst st tr k) ρ w=aeP y): ∃r,y=w r/\WO F (o::l) p tr (Q r):=by
 have hS:=h.aA;have hE:=h.env;have shr: ∀(f:FuncId) (SS:List SV) (pas:List PV),RL st.aA SS pas->(∀n,BB F (run F n) p.env p.aA p.fz o.op=iB (run F n) f pas p.aA p.fz)->
  inl f SS st.aA st.fz R' (fun v s' z'=>XH o.dst st tr k (.shr v s' z')) ρ w=aeP y-> ∃r,y=w r/\WO F (o::l) p tr (Q r):=by
  intro f SS pas hv iA hi;obtain ⟨r,hr,hd⟩:=Oq f SS st.aA st.fz R' _ ρ w y pas p.aA (fun r v s z=>(aa9 (aeL p.aA) (aeL s)&&p.fz.all (has z))=aeS/\WO F l {p with env:=kY o.dst v p.env,aA:=s,fz:=z} (YM::tr) (Q r)) hv hS hi
   (fun v s' z' pv Cw BY w' y' hR hS' hk=>by
    unfold XH at hk;dsimp only at hk;rw [N7] at hk;obtain ⟨hk,eT,ad5⟩:=FY hk;obtain ⟨hz,hk⟩:=de hk;have yX:=SU ad5;have acq:eQ s' (Of o.dst v (dgE (zw (aeL st.aA)) st.env)) (kY o.dst pv p.env):=by
     cases o.dst with
     |none=>exact eQ.fr yX hE
     |some t=>exact ⟨pv,p.env,rfl,hR,eQ.fr yX hE⟩
    have hR':Dp {env:=Of o.dst v (dgE (zw (aeL st.aA)) st.env),aA:=s',fz:=z',kn:=st.kn} {p with env:=kY o.dst pv p.env,aA:=Cw,fz:=z'}:=⟨acq,hS',rfl,h.kn⟩;obtain ⟨r,hr,hwo⟩:=hl _ _ _ _ _ _ hR' hk;refine ⟨r,hr,?_,hwo⟩;rw [h.fz,hz,adX,hS.len,hS'.len];simpa using eT)
  refine ⟨r,hr,WO.afZ hw iA ?_⟩;rw [h.fz];rw [h.fz] at hd;exact hd
 have loc: ∀{k':iC->jc R'},rU st.env st.aA st.fz o.op k' ρ w=aeP y->G1 o.op=aeT->(∀sr,k' sr=XH o.dst st tr k (.loc sr))-> ∃r,y=w r/\WO F (o::l) p tr (Q r):=by intro k' hv hc hk;obtain ⟨sr,pr,h1,G,h2⟩:=ack hE hS hv;rw [hk] at h2;exact AS hl h hw ⟨0,by rw [N5 hc,h.fz,h1];rfl⟩ G h2
 generalize iA:o.op=op at hg;cases op with
 |call m f args=>
  have qW:=Dq hE args;simp [Mv] at hg;cases m with
  |pur=>
   dsimp only at hg;cases hx:xp st.aA (nS st.aA deep) (mH st.env args) with
   |none=>rw [hx] at hg;cases hg
   |some vs=>rw [hx] at hg;obtain ⟨q,h1,h2⟩:=y9 hS (I0 hS deep) qW hx;obtain ⟨sr,pr,⟨n,h3⟩,G,h4⟩:=Cv (z:=st.fz) hS h1 h2 (D' hS (Kb hS deep) qW hx) (fun c hc=>II.con f c hc) hg;exact AS hl h hw ⟨n,by rw [iA,h.fz];simp only [BB,h3];rfl⟩ G h4
  |own=>
   dsimp only at hg;cases hx:xp st.aA (nS st.aA deep) (mH st.env args) with
   |none=>rw [hx] at hg;cases hg
   |some vs=>rw [hx] at hg;obtain ⟨q,h1,h2⟩:=y9 hS (I0 hS deep) qW hx;obtain ⟨sr,pr,⟨n,h3⟩,G,h4⟩:=Cv (z:=st.fz) hS h1 h2 (D' hS (Kb hS deep) qW hx) (fun c hc=>II.con f c hc) hg;exact AS hl h hw ⟨n,by rw [iA,h.fz];simp only [BB,h3];rfl⟩ G h4
  |shr=>exact shr f _ _ qW (fun n=>by rw [iA];rfl) hg
  |fp=>
   dsimp only at hg;cases hx:Sw st.aA (nS st.aA deep) (mH st.env args) with
   |false=>rw [hx] at hg;cases hg
   |true=>
    rw [hx] at hg;dsimp only at hg;obtain ⟨hz,hg⟩:=de hg;cases h1:yj (tL (wF (BT st.aA deep) (mH st.env args))) (mH st.env args) with
    |none=>rw [h1] at hg;cases hg
    |some vs=>
     cases h2:LS st.aA (tL (wF (BT st.aA deep) (mH st.env args))) (tL (wF (BT st.aA deep) (mH st.env args))) with
     |none=>rw [h1,h2] at hg;cases hg
     |some s0=>rw [h1,h2] at hg;obtain ⟨sr,pr,⟨n,h3⟩,G,h4⟩:=UL hS qW (by grind [Y8,Kb]) hz h1 h2 (fun c hc=>II.fpc f c hc) hg;exact AS hl h hw ⟨n,by rw [iA,h.fz];simp only [BB,h3];rfl⟩ G h4
 |Bz x args=>
  have qW:=Dq hE args;simp only [Mv] at hg;have hx:=eK hE x;generalize cq st.env x=v at hg hx;cases v with
  |fx f a b=>
   dsimp only at hg;obtain ⟨pa,pb,hx,ha,hb⟩:=hx;have aos: ∀{vs:List SV} {q:List PV},RL st.aA vs q->(EH vs=aeS->q.any Jh=aeS):=by
    intro vs
    induction vs with
    |nil=>intro q _ h;cases h
    |cons v vs ih=>
     intro q hq hp;obtain ⟨a,as,rfl,h1,h2⟩:=hq.cons_inv;simp [EH,Bool.or_eq_true] at hp;simp;rcases hp with hp|hp
     · left
       cases v with
       |own _ _=>obtain ⟨_,_,rfl,_⟩:=h1;rfl
       |pre _ _ _ _=>obtain ⟨_,rfl,_⟩:=h1;rfl
       |part _ _ _ _ _=>obtain ⟨_,rfl,_⟩:=h1;rfl
       |pa _ _ _ _ _=>obtain ⟨rfl,_⟩:=h1;rfl
       |pb _ _ _=>obtain ⟨_,rfl,_⟩:=h1;rfl
       |bp _ _ _=>rw [h1];rfl
       |mp _=>rw [h1];rfl
       |_=>cases hp
     grind
   cases hp:EH (mH st.env args++b) with
   |true=>rw [hp] at hg;have:=aos (qW.append hb) hp;exact shr f _ _ ((ha.append qW).append hb) (fun n=>by rw [iA];simp only [BB,hx,this,if_true]) hg
   |false=>
    rw [hp] at hg;simp only [ww] at hg;cases hxx:xp st.aA (nS st.aA deep) (a++mH st.env args++b) with
    |none=>rw [hxx] at hg;cases hg
    |some vs=>
     rw [hxx] at hg;have hno: ∀{vs u:List SV} {q:List PV},RL st.aA vs q->EH vs=aeT->xp st.aA (nS st.aA deep) vs=aeP u->q.any Jh=aeT:=by
      intro vs
      induction vs with
      |nil=>intro u q hq _ _;rw [hq];rfl
      |cons v vs ih=>
       intro u q hq hp hu;obtain ⟨a,as,rfl,h1,h2⟩:=hq.cons_inv;simp only [EH,Bool.or_eq_false_iff] at hp;simp only [xp] at hu;split at hu
       · rename_i y1 y2 e1 e2
         simp only [List.any_cons,ih h2 hp.2 e2,Bool.or_false];cases v with
         |agg _|cV _|bR _ _=>obtain ⟨_,rfl,_⟩:=h1;rfl
         |fx _ _ _=>obtain ⟨_,_,rfl,_⟩:=h1;rfl
         |int _ _|bool _|str _|eW|sl _ _|nil _ _|undef|na=>rw [h1];rfl
         |jM=>cases e1
         |own _ _|pre _ _ _ _|part _ _ _ _ _|pa _ _ _ _ _|pb _ _ _|bp _ _ _|mp _=>cases hp.1
       cases hu
     have af1: ∃u2,xp st.aA (nS st.aA deep) (mH st.env args++b)=aeP u2:=by
      have: ∀(l:List SV) {m u:List SV},xp st.aA (nS st.aA deep) (l++m)=aeP u-> ∃u2,xp st.aA (nS st.aA deep) m=aeP u2:=by
       intro l
       induction l with
       |nil=>intro m u h;exact ⟨u,h⟩
       |cons x l ih=>
        intro m u h;simp only [aec,xp] at h;split at h
        · rename_i e1 e2;exact ih e2
        cases h
      rw [aba] at hxx;exact this a hxx
     obtain ⟨u2,hu2⟩:=af1;have aot:=hno (qW.append hb) hp hu2;have tF:=(ha.append qW).append hb;obtain ⟨q,h1,h2⟩:=y9 hS (I0 hS deep) tF hxx;obtain ⟨sr,pr,⟨n,h3⟩,G,h4⟩:=Cv (z:=st.fz) hS h1 h2 (D' hS (Kb hS deep) tF hxx) (fun c hc=>II.con f c hc) hg;exact AS hl h hw ⟨n,by rw [iA,h.fz];simp only [BB,hx,aot,abi,if_false,h3];rfl⟩ G h4
  |_=>cases hg
 |_=>exact loc (by rw [iA];exact hg) (by rw [iA];rfl) (fun _=>rfl)
theorem AT (II:vu F cx) (Oq:Qy F inl): ∀(ops:List ck) {st:tT} {p:St} {tr:List Tr} {k:tT->List Tr->jc R'} {ρ:Type} {w:R'->ρ} {y:ρ} {Q:R'->St->List Tr->Prop},
 aor F k Q->Dp st p->tU cx inl ops st tr k ρ w=aeP y-> ∃r,y=w r/\WO F ops p tr (Q r)
 | [],st,p,tr,k,ρ,w,y,Q,hk,h,he=>by
  obtain ⟨r,hr,hq⟩:=hk st p tr ρ w y h he
  grind [WO.nil]
 |o::l,st,p,tr,k,ρ,w,y,Q,hk,h,he=>by
  have hl: ∀st p tr ρ (w:R'->ρ) y,Dp st p->tU cx inl l st tr k ρ w=aeP y-> ∃r,y=w r/\WO F l p tr (Q r):=fun st p tr ρ w y h he=>AT II Oq l hk h he
  have Cx: ∀{st:tT} {c:Nat} {v:SV},Dp st p->R st.aA v (lk c p.env)->Dp {st with env:=ED c v st.env} p:=fun h hv=>⟨h.env.ED hv,h.aA,h.fz,h.kn⟩
  have af2: ∀{st:tT},Dp st p->wanted o.guard p.env=aeP aeS->(match o.op with
   | .pick (.t c) a b=>match HV c st.env with
    | .bool x=>jh x (XH o.dst {st with env:=ED c (.bool aeS) st.env} tr (tU cx inl l · · k) (.loc {v:=cq st.env a}))
     (XH o.dst {st with env:=ED c (.bool aeT) st.env} tr (tU cx inl l · · k) (.loc {v:=cq st.env b}))
    |_=>aR
   |op=>Mv cx inl st.env st.aA st.fz op (XH o.dst st tr (tU cx inl l · · k))) ρ w=aeP y-> ∃r,y=w r/\WO F (o::l) p tr (Q r):=by
   intro st h hw he;have plain:Mv cx inl st.env st.aA st.fz o.op (XH o.dst st tr (tU cx inl l · · k)) ρ w=aeP y-> ∃r,y=w r/\WO F (o::l) p tr (Q r):=fun he=>Qz II Oq hl h hw he
   generalize iA:o.op=op at he;cases op with
   |pick c a b=>
    cases c with
    |c v=>grind
    |t c=>
     dsimp only at he;generalize hv:HV c st.env=v at he;cases v with
     |bool x=>
      have hx:lk c p.env= .bool x:=by have:=h.env.lk c;rw [hv] at this;exact this
      rcases gz he with ⟨rfl,he⟩|⟨rfl,he⟩
      · have hR:=Cx h (v:= .bool aeS) hx
        exact AS hl hR hw ⟨0,by rw [iA];simp only [BB,bO,gR.ev,hx];rfl⟩ (Good.val hR.aA (eK h.env a)) he
      have hR:=Cx h (v:= .bool aeT) hx
      exact AS hl hR hw ⟨0,by rw [iA];simp only [BB,bO,gR.ev,hx];rfl⟩ (Good.val hR.aA (eK h.env b)) he
     |_=>cases he
   |_=>exact plain (by rw [iA];exact he)
  have Zg: ∀{st:tT},Dp st p->wanted o.guard p.env=aeP aeT->tU cx inl l {st with env:=Of o.dst .na st.env} (Tr.idle::tr) k ρ w=aeP y-> ∃r,y=w r/\WO F (o::l) p tr (Q r):=by
   intro st h hw he;have hR:Dp {st with env:=Of o.dst .na st.env} {p with env:=kY o.dst .na p.env}:=by
    refine ⟨?_,h.aA,h.fz,h.kn⟩;cases o.dst with
    |none=>exact h.env
    |some t=>exact ⟨.na,p.env,rfl,rfl,h.env⟩
   grind [WO.skip]
  simp [tU] at he;cases RY:o.guard with
  |none=>rw [RY] at he;exact af2 h (by rw [RY];rfl) he
  |some g=>
   obtain ⟨c,want⟩:=g;rw [RY] at he;dsimp only at he;generalize hv:HV c st.env=v at he;cases v with
   |bool x=>
    have hx:lk c p.env= .bool x:=by have:=h.env.lk c;rw [hv] at this;exact this
    have hwx: ∀b,x=b->wanted o.guard p.env=aeP (b==want):=fun b hb=>by rw [RY];simp [wanted,hx,hb]
    cases want with
    |true=>
     simp [v6] at he;rcases gz he with ⟨rfl,he⟩|⟨rfl,he⟩
     · exact af2 (Cx h (v:= .bool aeS) hx) (hwx aeS rfl) he
     exact Zg (Cx h (v:= .bool aeT) hx) (hwx aeT rfl) he
    |false=>
     simp [ww] at he;rcases gz he with ⟨rfl,he⟩|⟨rfl,he⟩
     · exact Zg (Cx h (v:= .bool aeS) hx) (hwx aeS rfl) he
     exact af2 (Cx h (v:= .bool aeT) hx) (hwx aeT rfl) he
   |na=>
    have hx:lk c p.env= .na:=by have:=h.env.lk c;rw [hv] at this;exact this
    exact Zg h (by rw [RY];simp [wanted,hx]) he
   |_=>cases he
theorem Km {e:SE}: ∀{gS:List Nat} {k:SE->jc R'} {ρ:Type} {w:R'->ρ} {y:ρ},Qn e gS k ρ w=aeP y->k (gS.map fun s=>(s,HV s e)) ρ w=aeP y
 | [],k,ρ,w,y,h=>h
 |s::r,k,ρ,w,y,h=>by simp [Qn] at h;rw [N7] at h;have:=Km h;exact this
theorem Zh {s:List SB} {e:SE} {pe:Env} (h:eQ s e pe): ∀(gS:List Nat),eQ s (gS.map fun t=>(t,HV t e)) (gS.map fun t=>(t,lk t pe))
 | []=>rfl
 |t::r=>⟨_,_,rfl,h.lk t,Zh h r⟩
end
mutual
theorem MJ: ∀(v:SV) (q:List BX),y8 v (G3 v++q)=(v,q)
 | .jM,q| .undef,q| .na,q| .eW,q| .int _ _,q| .bool _,q| .str _,q| .sl _ _,q| .nil _ _,q| .own _ _,q| .pre _ _ _ _,q| .part _ _ _ _ _,q| .pa _ _ _ _ _,q| .pb _ _ _,q| .bp _ _ _,q| .mp _,q=>rfl
 | .agg cs,q=>by simp only [y8,G3,w3]
 | .cV cs,q=>by simp only [y8,G3,w3]
 | .bR cs o,q=>by simp only [y8,G3,w3]
 | .fx f a b,q=>by simp only [y8,G3,aba,w3]
theorem w3: ∀(v:List SV) (q:List BX),wH v (G4 v++q)=(v,q)
 | [],q=>rfl
 |x::xs,q=>by simp only [wH,G4,aba,MJ,w3]
end
theorem MK: ∀(v:List SB) (q:List BX),EG v (Oa v++q)=(v,q)
 | [],q=>rfl
 |x::xs,q=>by
  have: ∀q,SA x (YI x++q)=(x,q):=by intro q;cases x<;>first|rfl|simp [SA,YI,w3]
  simp [EG,Oa,this,MK]
theorem ML: ∀(v:SE) (q:List BX),Ql v (Wb v++q)=(v,q)
 | [],q=>rfl
 |(t,x)::xs,q=>by simp [Ql,Wb,MJ,ML]
theorem SW (st:tT):zN st (sq st)=st:=by have hs:=MK st.aA [];rw [abd] at hs;simp [zN,sq,ML,hs]
theorem aeE {β:Type 1}: ∀(l:List PT) (c:List PT->β),rK l c=c l
 | [],_=>rfl
 |p::r,c=>by cases p<;>simp [rK,ptK,aeE r]
theorem SX {β:Type 1}: ∀(l:List AK) (c:List AK->β),ksK l c=c l
 | [],_=>rfl
 |a::r,c=>by cases a<;>simp [ksK,aeE,SX r]
theorem aeF {s:List SB} {o:SE}: ∀{e:SE} {pe:Env},eQ s e pe->eQ s (jnE o e) pe
 | [],_,h=>h
 |(t,v)::r,_,⟨p,q,h1,h2,h3⟩=>⟨p,q,h1,by cases HV t o<;>first|exact h2|trivial,aeF h3⟩
theorem Wo {cx:Ctx} {inl:Inl} (II:vu F cx) (Oq:Qy F inl): ∀(c:lY) (R':Type) {st:tT} {p:St} {k:jQ->tT->jc R'} {ρ:Type} {w:R'->ρ} {y:ρ} {Q:R'->jQ->St->Prop},
 (∀e st p ρ (w:R'->ρ) y,Dp st p->k e st ρ w=aeP y-> ∃r,y=w r/\Q r e p)->Dp st p->Cq cx inl c R' st k ρ w=aeP y-> ∃r,y=w r/\WP F c p (Q r):=by
 intro c
 induction c with
 |skip=>
  intro R' st p k ρ w y Q hk h he;obtain ⟨r,hr,hq⟩:=hk _ _ _ _ _ _ h he
  grind [WP.skip]
 |ret=>
  intro R' st p k ρ w y Q hk h he;obtain ⟨r,hr,hq⟩:=hk _ _ _ _ _ _ h he
  grind [WP.ret]
 |exit id=>
  intro R' st p k ρ w y Q hk h he;obtain ⟨r,hr,hq⟩:=hk _ _ _ _ _ _ h he
  grind [WP.exit]
 |region d ops gS=>
  intro R' st p k ρ w y Q hk h he;simp [Cq] at he;have fin: ∀st p ρ (w:R'->ρ) y,Dp st p->Qn st.env gS (fun e=>k .normal {st with env:=e}) ρ w=aeP y-> ∃r,y=w r/\Q r .normal (xg gS p):=by
   intro st p ρ w y h he;have:=Km he;have hR:Dp {st with env:=gS.map fun t=>(t,HV t st.env)} (xg gS p):=⟨Zh h.env gS,h.aA,h.fz,h.kn⟩
   grind
  cases d with
  |none=>
   obtain ⟨r,hr,hwo⟩:=AT II Oq ops (fun st p tr ρ w y h he=>fin st p ρ w y h he) h he
   grind [WP.region]
  |some bf=>
   obtain ⟨r,hr,hwo⟩:=AT II Oq ops (Q:=fun r s t=>wq 0 (t.reverse.zip bf)=aeS/\Q r .normal (xg gS s)) (fun st p tr ρ w y h he=>by
    dsimp only at he;cases ho:wq 0 (tr.reverse.zip bf) with
    |false=>rw [ho] at he;cases he
    |true=>rw [ho] at he;obtain ⟨r,hr,hq⟩:=fin st p ρ w y h he;exact ⟨r,hr,ho,hq⟩) h he
   grind [WP.abq]
 |seq a b iha ihb=>
  intro R' st p k ρ w y Q hk h he;simp [Cq] at he;cases hj:cx.jn&&jnC a with
  |false=>
   rw [hj] at he;obtain ⟨r,hr,RZ⟩:=iha R' (Q:=fun r=>andThen (fun s=>WP F b s (Q r)) (Q r)) (fun e st p ρ w y h he=>by
    cases e with
    |normal=>exact ihb R' hk h he
    |exit i=>exact hk _ _ _ _ _ _ h he
    |ret=>exact hk _ _ _ _ _ _ h he) h he
   grind [WP.seq]
  |true=>
   rw [hj] at he;dsimp only at he;rw [SX] at he;generalize YJ (sq (Wc st.env (jnK a) st))=ks at he;generalize Wc st.env (jnK a) st=s1 at he;cases hp:oK ks (sq s1) with
   |none=>rw [hp] at he;cases he
   |some y0=>
    rw [hp] at he;dsimp only at he;obtain ⟨n,LV⟩:=Qg he;clear he;have body: ∀zr,Cq cx inl a (Step (Bool×kv ks) ρ) st (fun e BN=>match e with
     | .normal=>bif EF s1 {BN with env:=jnE st.env BN.env} then (match oK ks (sq {BN with env:=jnE st.env BN.env}) with
      |some y'=>HW (.next (aeT,y'))
      |none=>aR) else aR
     |e=>fun BY w'=>k e BN BY fun r=>w' (.done (w r))) (Step (Bool×kv ks) ρ) (fun z=>z)=aeP zr->
     WP F a p (fun e s=>match zr with
      | .next y'=>e= .normal/\y'.1=aeT/\Dp (zN s1 (pT ks y'.2)) s
      | .done x=>e≠ .normal/\ ∃r,x=w r/\Q r e s):=by
     intro zr qZ;obtain ⟨zr',T8,RZ⟩:=iha (Step (Bool×kv ks) ρ) (Q:=fun zr e s=>match zr with
      | .next y'=>e= .normal/\y'.1=aeT/\Dp (zN s1 (pT ks y'.2)) s
      | .done x=>e≠ .normal/\ ∃r,x=w r/\Q r e s) (fun e BN p2 BY w' y2 h2 BE=>by
      cases e with
      |normal=>
       dsimp only at BE;obtain ⟨Ap,BE⟩:=de BE;cases hp3:oK ks (sq {BN with env:=jnE st.env BN.env}) with
       |none=>rw [hp3] at BE;cases BE
       |some y3=>rw [hp3] at BE;injection BE with BE;refine ⟨.next (aeT,y3),BE.symm,rfl,rfl,?_⟩;dsimp only;rw [tY hp3,MF Ap];exact ⟨aeF h2.env,h2.aA,h2.fz,h2.kn⟩
      |exit i=>obtain ⟨r,hr,hq⟩:=hk _ _ _ _ _ _ h2 BE;exact ⟨.done (w r),hr,(by intro e;cases e),r,rfl,hq⟩
      |ret=>obtain ⟨r,hr,hq⟩:=hk _ _ _ _ _ _ h2 BE;exact ⟨.done (w r),hr,(by intro e;cases e),r,rfl,hq⟩) h qZ
     grind
    cases n with
    |zero=>cases LV
    |succ n=>
     simp [si,jh] at LV;split at LV
     · rename_i y' qZ
       obtain ⟨m,e,s,dq,rfl,hy,hR3⟩:=body _ qZ;obtain ⟨y1,y2⟩:=y';dsimp only at hy hR3;subst hy;cases n with
       |zero=>cases LV
       |succ n=>
        simp [si] at LV;split at LV
        · rename_i y' Sf
          obtain ⟨r,hr,_⟩:=ihb R' hk hR3 Sf;cases hr
        · rename_i x Sf
          obtain ⟨r,hr,RZ⟩:=ihb R' hk hR3 Sf;injection LV with LV;injection hr with hr;exact ⟨r,by grind,WP.seq ⟨m,.normal,s,dq,RZ⟩⟩
        cases LV
     · rename_i x qZ
       injection LV with LV;obtain ⟨m,e,s,dq,fy,r,hr,hq⟩:=body _ qZ;refine ⟨r,by grind,WP.seq ⟨m,e,s,dq,?_⟩⟩;cases e with
       |normal=>grind
       |exit i=>exact hq
       |ret=>exact hq
     cases LV
 |cond c a b iha ihb=>
  intro R' st p k ρ w y Q hk h he;simp [Cq] at he;have hx:=eK h.env c;generalize cq st.env c=v at he hx;cases v with
  |bool x=>
   rcases gz he with ⟨rfl,he⟩|⟨rfl,he⟩
   · obtain ⟨r,hr,RZ⟩:=iha R' hk h he
     exact ⟨r,hr,WP.adZ hx RZ⟩
   obtain ⟨r,hr,RZ⟩:=ihb R' hk h he
   exact ⟨r,hr,WP.ad0 hx RZ⟩
  |_=>cases he
 |block id b ih=>
  intro R' st p k ρ w y Q hk h he;simp [Cq] at he;obtain ⟨r,hr,RZ⟩:=ih R' (Q:=fun r=>inBlock id (Q r)) (fun e st p ρ w y h he=>by
   cases e with
   |normal=>exact hk _ _ _ _ _ _ h he
   |ret=>exact hk _ _ _ _ _ _ h he
   |exit j=>
    dsimp only at he;cases hj:ab4 j id with
    |true=>rw [hj] at he;obtain ⟨r,hr,hq⟩:=hk _ _ _ _ _ _ h he;have hji:=EQ hj;exact ⟨r,hr,by simpa [inBlock,hji] using hq⟩
    |false=>
     rw [hj] at he;obtain ⟨r,hr,hq⟩:=hk _ _ _ _ _ _ h he;have:j≠id:=by intro e;subst e;simp at hj
     exact ⟨r,hr,by simpa [inBlock,this] using hq⟩) h he
  grind [WP.block]
 |loop live b ih=>
  intro R' st p k ρ w y Q hk h he;simp [Cq] at he;cases hn:JX cx.rk live st with
  |none=>rw [hn] at he;cases he
  |some rO=>
   rw [hn] at he;dsimp only at he;rw [SX] at he;generalize YJ (sq rO)=ks at he;cases hp:oK ks (sq rO) with
   |none=>rw [hp] at he;cases he
   |some y0=>
    rw [hp] at he;dsimp only at he;obtain ⟨p1,hp1,hR1⟩:=UI h hn;have ajx: ∀(Wd:tT) (y':kv ks),EF rO Wd=aeS->oK ks (sq Wd)=aeP y'->zN rO (pT ks y')=Wd:=fun Wd y' h1 h2=>by rw [tY h2,MF h1]
    obtain ⟨n,LV⟩:=Qg he;have h0:Dp (zN rO (pT ks y0)) p1:=by rw [tY hp,SW];exact hR1
    clear he hp hn h hR1
    induction n generalizing y0 p p1 with
    |zero=>cases LV
    |succ n ihn=>
     have body: ∀zr,Cq cx inl b (Step (kv ks) ρ) (zN rO (pT ks y0)) (fun e BN=>match e with
      | .normal=>match JX cx.rk live BN with
       |some Wd=>bif EF rO Wd then (match oK ks (sq Wd) with
        |some y'=>HW (.next y')
        |none=>aR) else aR
       |none=>aR
      |e=>fun BY w'=>k e BN BY fun r=>w' (.done (w r))) (Step (kv ks) ρ) (fun z=>z)=aeP zr->
      WP F b p1 (fun e s=>match zr with
       | .next y'=>e= .normal/\ ∃p3,norm live s=aeP p3/\Dp (zN rO (pT ks y')) p3
       | .done x=>e≠ .normal/\ ∃r,x=w r/\Q r e s):=by
      intro zr qZ;obtain ⟨zr',T8,RZ⟩:=ih (Step (kv ks) ρ) (Q:=fun zr e s=>match zr with
       | .next y'=>e= .normal/\ ∃p3,norm live s=aeP p3/\Dp (zN rO (pT ks y')) p3
       | .done x=>e≠ .normal/\ ∃r,x=w r/\Q r e s) (fun e BN p2 BY w' y2 h2 BE=>by
       cases e with
       |normal=>
        dsimp only at BE;cases hn3:JX cx.rk live BN with
        |none=>rw [hn3] at BE;cases BE
        |some Wd=>
         rw [hn3] at BE;obtain ⟨Ap,BE⟩:=de BE;cases hp3:oK ks (sq Wd) with
         |none=>rw [hp3] at BE;cases BE
         |some y3=>rw [hp3] at BE;injection BE with BE;obtain ⟨p3,aov,hR3⟩:=UI h2 hn3;exact ⟨.next y3,BE.symm,rfl,p3,aov,by rw [ajx Wd y3 Ap hp3];exact hR3⟩
       |exit i=>obtain ⟨r,hr,hq⟩:=hk _ _ _ _ _ _ h2 BE;exact ⟨.done (w r),hr,(by intro e;cases e),r,rfl,hq⟩
       |ret=>obtain ⟨r,hr,hq⟩:=hk _ _ _ _ _ _ h2 BE;exact ⟨.done (w r),hr,(by intro e;cases e),r,rfl,hq⟩) h0 qZ
      subst T8;exact RZ
     simp [si] at LV;split at LV
     · rename_i y' qZ
       obtain ⟨m,e,s,dq,rfl,p3,hp3,hR3⟩:=body _ qZ;obtain ⟨r,hr,RZ⟩:=ihn y' p3 hp3 LV hR3;exact ⟨r,hr,WP.again hp1 ⟨m,.normal,s,dq,RZ⟩⟩
     · rename_i x qZ
       injection LV with LV;obtain ⟨m,e,s,dq,fy,r,hr,hq⟩:=body _ qZ;refine ⟨r,by rw [<- LV];exact hr,WP.again hp1 ⟨m,e,s,dq,?_⟩⟩;cases e with
       |normal=>exact absurd rfl fy
       |exit i=>exact hq
       |ret=>exact hq
     cases LV
end
end Go.Vm
/- Contracts from the typed machine. -/
namespace Go.Vm
section
variable {F : p8} {cx : Ctx} {inl : Inl}
theorem QA {s:List SB}: ∀{l:List SV} {q:List PV} (i:Nat),RL s l q->eQ s (SG i l) (zz i q)
 | [],q,i,h=>by rw [h];rfl
 |x::xs,q,i,h=>by obtain ⟨a,as,rfl,h1,h2⟩:=h.cons_inv;exact ⟨a,zz _ as,rfl,h1,QA _ h2⟩
theorem Zi {st:tT} {p:St} (h:Dp st p) {r:RV} {v:SV} (hr:SF st r=aeP v): ∃q,Jj p r=aeP q/\R st.aA v q:=by
 cases r with
 |tmp t=>injection hr with hr;subst hr;exact ⟨_,rfl,h.env.lk t⟩
 |cell t agg=>
  simp [SF] at hr;have Ap:=h.env.lk t;split at hr
  · rename_i u n off hv
    rw [hv] at Ap;rw [cJ] at hr;split at hr
    · rename_i cs cO
      obtain ⟨q,h1,h2⟩:=h.aA.box cO;obtain ⟨x,h3,h4⟩:=yl h2 hr;refine ⟨x,?_,h4⟩;simp only [Jj,show lk t p.env=_ from Ap,tI,h1,h3];rfl
    cases hr
  · rename_i cs off hv
    rw [hv] at Ap;obtain ⟨q,h1,h2⟩:=Ap;obtain ⟨x,h3,h4⟩:=yl h2 hr;refine ⟨x,?_,h4⟩;simp only [Jj,h1,tI,h3];rfl
  cases hr
theorem MM {st:tT} {p:St} (h:Dp st p): ∀{l:List RV} {vs:List SV},Dn st l=aeP vs-> ∃q,rY p l=aeP q/\RL st.aA vs q
 | [],vs,hr=>by injection hr with hr;subst hr;exact ⟨[],rfl,rfl⟩
 |r::l,vs,hr=>by
  simp [Dn] at hr;split at hr
  · rename_i v RU h1 h2
    injection hr with hr;subst hr;obtain ⟨q,h3,h4⟩:=Zi h h1;obtain ⟨qs,h5,h6⟩:=MM h h2;exact ⟨q::qs,by simp [rY,h3,h5],RL.cons h4 h6⟩
  cases hr
theorem QB {s:List SB} {vs:List SV} {q:List PV} (h:RL s vs q):R s (G5 vs) (results1 q):=by
 match vs,q,h with
 | [],q,h=>rw [h];exact ⟨[],rfl,rfl⟩
 | [v],q,h=>obtain ⟨a,as,rfl,h1,h2⟩:=h.cons_inv;rw [h2];exact h1
 |v::u::r,q,h=>have tF:=h;obtain ⟨a,as,rfl,h1,h2⟩:=h.cons_inv;obtain ⟨b,bs,rfl,h3,h4⟩:=h2.cons_inv;exact ⟨_,rfl,tF⟩
theorem Cy (II:vu F cx) (Oq:Qy F inl) {f:FuncId} {x:ax} (hf:F f=aeP (.code x)) {R':Type} {args:List SV} {s:List SB} {z:List Nat} {k:SV->List SB->List Nat->jc R'} {ρ:Type} {w:R'->ρ} {y:ρ} {pa:List PV} {ps:cU}
 {Q:R'->PV->cU->List Nat->Prop} (ha:RL s args pa) (hS:cX s ps) (he:Uy cx inl x R' args s z k ρ w=aeP y)
 (hk: ∀v s' z' p Cw BY (w':R'->BY) y',R s' v p->cX s' Cw->k v s' z' BY w'=aeP y'-> ∃r,y'=w' r/\Q r p Cw z'): ∃r,y=w r/\Er F f pa ps z (fun p Cw z'=>Q r p Cw z'):=by
 obtain ⟨hn,he⟩:=de he;have fin: ∀st p BY (w':R'->BY) y',Dp st p->(match Dn st x.res with
  |some vs=>k (G5 vs) st.aA st.fz
  |none=>aR) BY w'=aeP y'-> ∃r,y'=w' r/\ ∃vs,rY p x.res=aeP vs/\Q r (results1 vs) p.aA p.fz:=by
  intro st p BY w' y' h he;cases hr:Dn st x.res with
  |none=>rw [hr] at he;cases he
  |some vs=>rw [hr] at he;obtain ⟨q,h1,h2⟩:=MM h hr;obtain ⟨r,h3,h4⟩:=hk _ _ _ _ _ _ _ _ (QB h2) h.aA he;exact ⟨r,h3,q,h1,by rw [h.fz];exact h4⟩
 obtain ⟨r,hr,RZ⟩:=Wo II Oq x.code R' (Q:=fun r=>Nz x fun p Cw z'=>Q r p Cw z') (p:={env:=zz 0 pa,aA:=ps,fz:=z,kn:=aeL ps}) (fun e st p BY w' y' h he=>by
  cases e with
  |normal=>exact fin st p BY w' y' h he
  |ret=>exact fin st p BY w' y' h he
  |exit i=>cases he) ⟨QA 0 ha,hS,rfl,hS.len⟩ he
 exact ⟨r,hr,Er.of hf (by rw [ha.qA];exact hn) RZ⟩
theorem Ot {α:Type} {l m r:List α} {i:Int} (h:Dk l i m=aeP r):0<=i/\i.toNat<=aeL l/\aeL m=1/\aeL l+1<=1048576/\r=l.take i.toNat++m++l.drop i.toNat:=by
 unfold Dk at h
 grind
theorem Wp {e:Nat} {args:List SV} {s:List SB} {z:List Nat} {a:ajg} (h:ab5 e args s z=aeP a):
 ∃x u x2 m,args=[.own a.t x,.int .i64 a.i,.own u x2]/\nth s a.t=aeP (.arr a.r a.l)/\nth s u=aeP (.arr a.r m)/\a.m=m/\aeL a.r=e/\ab4 a.t u=aeT/\has z a.t=aeT:=by
 unfold ab5 at h;split at h
 case h_2=>cases h
 split at h
 case h_2=>cases h
 split at h
 case h_2=>cases h
 split at h
 case h_2=>cases h
 rename_i m' hm;cases hc:(ab4 _ e&&_&&_) with
 |false=>rw [hc] at h;cases h
 |true=>rw [hc] at h;injection h with h;subst h;simp [] at hc;obtain ⟨rfl,rfl⟩:=tV hm;exact ⟨_,_,_,_,rfl,by assumption,by assumption,rfl,hc.1.1,hc.1.2,hc.2⟩
theorem SY {e:Nat} {f:FuncId} (hf:F f=aeP (.Ly (Ny e))) {R':Type} {args:List SV} {s:List SB} {z:List Nat} {k:SV->List SB->List Nat->jc R'} {ρ:Type} {w:R'->ρ} {y:ρ} {pa:List PV} {ps:cU}
 {Q:R'->PV->cU->List Nat->Prop} (ha:RL s args pa) (hS:cX s ps) (he:afN e args s z k ρ w=aeP y)
 (hk: ∀v s' z' p Cw BY (w':R'->BY) y',R s' v p->cX s' Cw->k v s' z' BY w'=aeP y'-> ∃r,y'=w' r/\Q r p Cw z'): ∃r,y=w r/\Er F f pa ps z (fun p Cw z'=>Q r p Cw z'):=by
 unfold afN at he;cases hA:ab5 e args s z with
 |none=>rw [hA] at he;cases he
 |some a=>
 rw [hA] at he;obtain ⟨l',hl,he⟩:=dd he;obtain ⟨x,u,x2,m0,rfl,ht,hu,hm,he1,htu,hz⟩:=Wp hA;obtain ⟨t,q,l,i,m⟩:=a;dsimp only at*;subst hm he1;obtain ⟨i0,il,m1,p9,rfl⟩:=Ot hl;obtain ⟨p0,pr0,rfl,h0,ha⟩:=ha;obtain ⟨p1,pr1,rfl,h1,ha⟩:=ha;obtain ⟨p2,pr2,rfl,h2,ha⟩:=ha;obtain rfl:=ha;obtain rfl:=h1;have Yn:s[t]? =aeP (.arr q l):=by rw [<- cJ];exact ht
 have HR:s[u]? =aeP (.arr q m):=by rw [<- cJ];exact hu
 obtain ⟨e0,n0,rfl,o0⟩:=h0;obtain ⟨e2,n2,rfl,o2⟩:=h2;obtain ⟨rfl,rfl⟩:e0=aeL q/\n0=(aeL l):=by
  rcases o0 with ⟨r1,l1,a,b,c⟩|a
  · rw [Yn] at a;injection a with a;injection a with a1 a2;subst a1;subst a2;exact ⟨b,c⟩
  grind
 obtain ⟨rfl,rfl⟩:e2=aeL q/\n2=(aeL m):=by
  rcases o2 with ⟨r1,l1,a,b,c⟩|a
  · rw [HR] at a;injection a with a;injection a with a1 a2;subst a1;subst a2;exact ⟨b,c⟩
  grind
 obtain ⟨b1,Pp,SZ⟩:=hS.at_ t _ Yn;obtain ⟨b2,Sf,af4⟩:=hS.at_ u _ HR;have af4:=af4;subst SZ af4;have eT:(IH [t] (s.set t .dead)).length=(aeL s):=by rw [AH];simp
 obtain ⟨L,hL⟩: ∃L,L=l.take i.toNat++m++l.drop i.toNat:=⟨_,rfl⟩;rw [<- hL] at he;have G:=Good.put hS (l:=[.arr q L]) (ql:=[.arr (aeL q) (L.map (RT.pv q))]) (v:= .own (aeL s) aeT)
  (p:= .own (aeL s) (aeL q) 0 (aeL L) (aeL L) aeT) (rd:=[]) Yn (.inr rfl) rfl rfl
  (fun j b hj=>by
   cases j with
   |zero=>simp at hj;subst hj;exact ⟨_,rfl,rfl⟩
   |succ j=>simp at hj)
  ⟨aeL q,aeL L,rfl,.inl ⟨q,L,by grind,rfl,rfl⟩⟩
 have Fi:(aeL L)=aeL l+1:=by
  grind
 obtain ⟨rr,hr,hq⟩:=hk _ _ _ _ _ _ _ _ G.v G.aA he;refine ⟨rr,hr,1,_,_,_,?_,hq⟩;rw [oF];have lz:aa9 (aeL l+1) gU=aeS:=by simp [gU];omega
 have hbl:aa9 i.toNat (aeL l)=aeS:=by simpa using il
 have hLm:L.map (RT.pv q)=(l.map (RT.pv q)).take i.toNat++m.map (RT.pv q)++(l.map (RT.pv q)).drop i.toNat:=by simp_all
 simp [step,hf,Ny,Pp,Sf,m1,htu,hz,i0,lz,il,Fi,hS.len,ly,zx,hLm]
theorem Wq {α:Type} {l m r:List α} (h:V8 l m=aeP r):1<=aeL l+aeL m/\aeL l+aeL m<=1048576/\r=l++m:=by
 unfold V8 at h
 grind
theorem Wr {args:List SV} {s:List SB} {z:List Nat} {a:ajh} (h:ab6 args s z=aeP a):
 ∃cap x m,args=[.part a.t 0 2 cap x]/\nth s a.t=aeP (.box [.sl a.r a.l,.sl a.r m])/\a.m=m/\aeL a.r=1/\has z a.t=aeT:=by
 unfold ab6 at h;split at h
 case h_2=>cases h
 split at h
 case h_2=>cases h
 split at h
 case h_2=>cases h
 rename_i m' hm;cases hc:(ab4 _ 1&&ab4 _ 0&&ab4 _ 2&&_) with
 |false=>rw [hc] at h;cases h
 |true=>rw [hc] at h;injection h with h;subst h;obtain ⟨rfl,rfl⟩:=tV hm;simp_all
theorem Ws {r:List PT} (h:(aeL r)=1) (l:List _):Au (l.map (RT.pv r))=aeS:=by
 unfold Au;rw [abk];intro x hx;obtain ⟨a,_,rfl⟩:=aeJ.1 hx
 match r,h with
 | [p],_=>cases p<;>rfl
theorem S0 {f:FuncId} (hf:F f=aeP (.Ly Nw)) {R':Type} {args:List SV} {s:List SB} {z:List Nat} {k:SV->List SB->List Nat->jc R'} {ρ:Type} {w:R'->ρ} {y:ρ} {pa:List PV} {ps:cU}
 {Q:R'->PV->cU->List Nat->Prop} (ha:RL s args pa) (hS:cX s ps) (he:afO args s z k ρ w=aeP y)
 (hk: ∀v s' z' p Cw BY (w':R'->BY) y',R s' v p->cX s' Cw->k v s' z' BY w'=aeP y'-> ∃r,y'=w' r/\Q r p Cw z'): ∃r,y=w r/\Er F f pa ps z (fun p Cw z'=>Q r p Cw z'):=by
 unfold afO at he;cases hA:ab6 args s z with
 |none=>rw [hA] at he;cases he
 |some a=>
 rw [hA] at he;obtain ⟨l',hl,he⟩:=dd he;obtain ⟨cap,x,m0,rfl,ht,hm,he1,hz⟩:=Wr hA;obtain ⟨t,q,l,m⟩:=a;subst hm;obtain ⟨hp,p9,rfl⟩:=Wq hl;obtain ⟨p0,pr0,rfl,h0,ha⟩:=ha;obtain rfl:=ha;have Yn:s[t]? =aeP (.box [.sl q l,.sl q m]):=by rw [<- cJ];exact ht
 obtain ⟨e0,rfl,o0⟩:=h0;obtain rfl:e0=1:=by
  rcases o0 with ⟨r1,l1,a,b⟩|a|⟨_,a,b⟩
  · grind
  · grind
  exact b
 obtain ⟨b1,Pp,SZ⟩:=hS.at_ t _ Yn;obtain ⟨ps1,rfl,p1,q1,rfl,hp1,p2,q2,rfl,hp2,rfl⟩:=SZ;subst hp1 hp2;have eT:(IH [t] (s.set t .dead)).length=(aeL s):=by rw [AH];simp
 obtain ⟨L,hL⟩: ∃L,L=l++m:=⟨_,rfl⟩;rw [<- hL] at he;have G:=Good.put hS (l:=[.arr q L]) (ql:=[.arr (aeL q) (L.map (RT.pv q))]) (v:= .own (aeL s) aeT)
  (p:= .own (aeL s) (aeL q) 0 (aeL L) (aeL L) aeT) (rd:=[]) Yn (.inr rfl) rfl rfl
  (fun j b hj=>by
   cases j with
   |zero=>simp at hj;subst hj;exact ⟨_,rfl,rfl⟩
   |succ j=>simp at hj)
  ⟨aeL q,aeL L,rfl,.inl ⟨q,L,by grind,rfl,rfl⟩⟩
 have Fi:(aeL L)=aeL l+(aeL m):=by rw [hL];simp
 obtain ⟨rr,hr,hq⟩:=hk _ _ _ _ _ _ _ _ G.v G.aA he;refine ⟨rr,hr,1,_,_,_,?_,hq⟩;rw [oF];have lz:aa9 (aeL l+aeL m) gU=aeS:=by simp [gU];omega
 have hLm:L.map (RT.pv q)=l.map (RT.pv q)++m.map (RT.pv q):=by grind
 have hc:(ab4 1 1&&ab4 0 0&&ab4 2 2&&!has z t&&Au (l.map (RT.pv q))&&Au (m.map (RT.pv q))&&aa9 1 ((l.map (RT.pv q)).length+(m.map (RT.pv q)).length)&&aa9 ((l.map (RT.pv q)).length+(m.map (RT.pv q)).length) gU&&(ab4 (aeL q) 1||(l.map (RT.pv q)).isEmpty)&&(ab4 (aeL q) 1||(m.map (RT.pv q)).isEmpty))=aeS:=by simp_all [Ws,]
 simp only [step,hf];unfold Nw
 dsimp only;rw [Pp];dsimp only;rw [hc];simp [hS.len,ly,zx,hLm,Fi,he1]
theorem QC: ∀(p:PT) (a:p.T),FK p (p.pv a)=aeP a
 | .i k,a=>by have:gM k k=aeS:=gx.2 rfl;simp [FK,PT.pv,this]
 | .b,a=>rfl
theorem UN: ∀(r:List PT) (a:RT r),LU r (RT.pv r a)=aeP a
 | [],a=>rfl
 | [p],a=>QC p a
 |p::q::r,a=>by
  show (match FK p _,LU (q::r) _ with
   |some a,aeP b=>aeP _
   |_,_=>aeR)=_
  rw [QC,UN _]
theorem QD (r:List PT): ∀l:List _,HX r (l.map (RT.pv r))=aeP l
 | []=>rfl
 |a::l=>by
  show (match LU r _,HX r _ with
   |some a,aeP l=>aeP _
   |_,_=>aeR)=_
  rw [UN,QD r l]
theorem acs {s:List SB} {g:Option FuncId} {a:List SV} {p:List PV} (h:HZ g a=aeS) (hr:RL s a p):ab2 g p=aeS:=by
 unfold HZ at h;split at h
 · obtain rfl:=hr
   rfl
 · obtain ⟨p0,pr,rfl,h0,hr⟩:=hr
   obtain rfl:=hr;obtain ⟨x,y,rfl,hx,hy⟩:=h0;obtain rfl:=hx;obtain rfl:=hy;exact h
 cases h
theorem Wt {r:List PT} {g:Option FuncId} {args:List SV} {s:List SB} {z:List Nat} {t:Nat} {o:Option Nat} {l:List _} (h:ab7 r g args s z=aeP (t,o,l)):
 ∃x a,args=x::a/\nth s t=aeP (.arr r l)/\has z t=aeT/\HZ g a=aeS/\((o=aeR/\ ∃ex,x= .own t ex)\/ ∃len cap ex,o=aeP len/\x= .pre t len cap ex):=by
 unfold ab7 at h;split at h
 · split at h
   · split at h
     · rename_i hm
       cases hc:(!has z _&&HZ g _) with
       |false=>rw [hc] at h;cases h
       |true=>
        rw [hc] at h;simp [] at h;obtain ⟨rfl,rfl,rfl⟩:=h;simp [] at hc
        grind [tV]
     cases h
   cases h
 · split at h
   · split at h
     · rename_i hm
       cases hc:(!has z _&&HZ g _) with
       |false=>rw [hc] at h;cases h
       |true=>
        rw [hc] at h;simp [] at h;obtain ⟨rfl,rfl,rfl⟩:=h;simp [] at hc
        grind [tV]
     cases h
   cases h
 cases h
theorem S1 {α:Type} {f:List α->Option _} {l m:List α} (h:HU f l=aeP m):(aeL l)<=1048576/\f l=aeP m/\aeL m=(aeL l):=by
 unfold HU at h
 grind
theorem Ou {α:Type} {f:List α->Option _} {n:Nat} {l m:List α} (h:Dl f n l=aeP m):n<=aeL l/\ ∃m',HU f (l.take n)=aeP m'/\m=m'++l.drop n:=by
 unfold Dl at h;split at h
 · rename_i hn
   cases hm:HU f _ with
   |none=>grind
   |some m'=>
    grind
 cases h
theorem S2 {q:Srt} {f:FuncId} (hf:F f=aeP (.Ly (Od q))) {R':Type} {args:List SV} {s:List SB} {z:List Nat} {k:SV->List SB->List Nat->jc R'} {ρ:Type} {w:R'->ρ} {y:ρ} {pa:List PV} {ps:cU}
 {Q:R'->PV->cU->List Nat->Prop} (ha:RL s args pa) (hS:cX s ps) (he:afP q args s z k ρ w=aeP y)
 (hk: ∀v s' z' p Cw BY (w':R'->BY) y',R s' v p->cX s' Cw->k v s' z' BY w'=aeP y'-> ∃r,y'=w' r/\Q r p Cw z'): ∃r,y=w r/\Er F f pa ps z (fun p Cw z'=>Q r p Cw z'):=by
 have key: ∀(t len:Nat) (l m':List (RT q.r)) (ex:Bool) (cap:Nat) (pr:List PV) (a:List SV),s[t]? =aeP (.arr q.r l)->has z t=aeT->HZ q.g a=aeS->RL s a pr->pa= .own t (aeL q.r) 0 len cap ex::pr->len<=aeL l->HU q.fn (l.take len)=aeP m'->
  k (.cV []) (iC.rh s {v:= .cV [],wr:=[(t,.arr q.r (m'++l.drop len))]}) z ρ w=aeP y-> ∃r,y=w r/\Er F f pa ps z (fun p Cw z'=>Q r p Cw z'):=by
  intro t len l m' ex cap pr a ht hz hg har hpa eT IX he;subst hpa;obtain ⟨s1,s2,s3⟩:=S1 IX;obtain ⟨b1,Pp,SZ⟩:=hS.at_ t _ ht;have SZ:=SZ;subst SZ;have Fi:(l.take len).length=len:=by grind
  have RW:(m'++l.drop len).length=(aeL l):=by grind
  have G:=Good.put hS (l:=[]) (ql:=[]) (v:= .cV []) (rd:=[]) ht (.inl ⟨_,rfl,RW⟩) rfl rfl
   (fun j b hj=>by simp at hj) ⟨[],rfl,rfl⟩
  obtain ⟨rr,hr,hq⟩:=hk _ _ _ _ _ _ _ _ G.v G.aA he;refine ⟨rr,hr,1,_,_,_,?_,hq⟩;rw [oF];have hg':=acs hg har;have hrt:HX q.r ((l.map (RT.pv q.r)).take len)=aeP (l.take len):=by rw [<- abn];exact QD q.r _
  have hbl:aa9 len (aeL l)=aeS:=by simpa using eT
  have hmo:aa9 len gU=aeS:=by simp [gU];omega
  have hbe:ab4 (aeL m') (l.take len).length=aeS:=by simp_all
  simp only [step,hf,Od,Pp,abb,acl,hbl,hmo,hz,hg',hrt,s2,hbe,adW,adX,if_true,adh,ly,zx,adc,ad6]
 unfold afP at he;cases hA:ab7 q.r q.g args s z with
 |none=>rw [hA] at he;cases he
 |some u=>
  obtain ⟨t,o,l⟩:=u;rw [hA] at he;obtain ⟨x,a,rfl,ht,hz,hg,h⟩:=Wt hA;obtain ⟨p0,pr,rfl,h0,ha⟩:=ha;rw [cJ] at ht;rcases h with ⟨rfl,ex,rfl⟩|⟨len,cap,ex,rfl,rfl⟩
  · obtain ⟨m,hm,he⟩:=dd he
    obtain ⟨e0,n0,rfl,o0⟩:=h0;obtain ⟨rfl,rfl⟩:e0=aeL q.r/\n0=(aeL l):=by
     rcases o0 with ⟨r1,l1,a,b,c⟩|a
     · rw [ht] at a;injection a with a;injection a with a1 a2;subst a1;cases a2;exact ⟨b,c⟩
     rw [ht] at a;cases a
    refine key t (aeL l) l m ex (aeL l) pr a ht hz hg ha rfl (ad2 _) (by rw [List.take_length];exact hm) ?_
    grind
  obtain ⟨m,hm,he⟩:=dd he
  obtain ⟨e0,rfl,o0⟩:=h0;obtain rfl:e0=(aeL q.r):=by
   rcases o0 with ⟨r1,l1,a,b⟩|a|⟨_,a,_⟩
   · rw [ht] at a;injection a with a;injection a with a1 a2;subst a1;exact b
   · rw [ht] at a;cases a
   grind
  obtain ⟨hn,m',IX,rfl⟩:=Ou hm;exact key t len l m' ex cap pr a ht hz hg ha rfl hn IX he
theorem Ov (II:vu F cx): ∀n,Qy F (YO cx n)
 |0=>fun f args s z R' k ρ w y pa ps Q _ _ h _=>by cases h
 |n+1=>fun f args s z R' k ρ w y pa ps Q ha hS h hk=>by
  simp [YO] at h;cases hx:cx.code f with
  |none=>rw [hx] at h;cases h
  |some x=>
   rw [hx] at h;cases x with
   |code x=>exact Cy II (Ov II n) (II.code f _ hx) ha hS h hk
   |ins e=>exact SY (II.code f _ hx) ha hS h hk
   |srt q=>exact S2 (II.code f _ hx) ha hS h hk
   |cat=>exact S0 (II.code f _ hx) ha hS h hk
def Wu:Kd->Bool->Bool
 | .own,b=>b
 |_,b=>!b
def af5 (kd:Kd) {β:Type} (res:Arg β) (b:β) (p:PV) (ps:cU) (z:List Nat):Prop:=
 match kd with
 | .pure=>p.ou=aeS/\xq (res.enc b)=aeP p
 | .jS=>p.ou=aeT/\ ∃q,DW ps p=aeP q/\xq (res.enc b)=aeP q
 | .own=> ∀nx,∃p0 p' q seen,Fh ps z nx [] p=aeP (p',q,seen)/\xq (res.enc b)=aeP p0/\Kg nx p0=aeP (p',q)
mutual
theorem QE {s:List SB}: ∀{v:SV} {p:PV},R s v p->EE v=aeS->xq v=aeP p
 | .int _ _,p,h,_| .bool _,p,h,_| .str _,p,h,_=>by rw [show p=_ from h];rfl
 | .agg cs,p,h,hn=>by obtain ⟨q,rfl,h⟩:=h;simp only [xq,Kn h hn]
 | .cV cs,p,h,hn=>by obtain ⟨q,rfl,h⟩:=h;simp only [xq,Kn h hn]
 | .jM,_,_,h| .undef,_,_,h| .na,_,_,h| .eW,_,_,h| .sl _ _,_,_,h| .nil _ _,_,_,h| .own _ _,_,_,h| .pre _ _ _ _,_,_,h| .part _ _ _ _ _,_,_,h| .pa _ _ _ _ _,_,_,h| .pb _ _ _,_,_,h| .bp _ _ _,_,_,h| .bR _ _,_,_,h| .fx _ _ _,_,_,h| .mp _,_,_,h=>by cases h
theorem Kn {s:List SB}: ∀{v:List SV} {p:List PV},RL s v p->wG v=aeS->wj v=aeP p
 | [],p,h,_=>by rw [show p=_ from h];rfl
 |x::xs,p,h,hn=>by obtain ⟨a,as,rfl,h1,h2⟩:=h.cons_inv;simp only [wG,If] at hn;exact fE.2 ⟨_,_,rfl,QE h1 hn.1,Kn h2 hn.2⟩
end
theorem S3 {kd:Kd} {β:Type} {res:Arg β} {v:SV} {s:List SB} {z:List Nat} {p:PV} {ps:cU} {ρ:Type} {w:β->ρ} {y:ρ} (hv:R s v p) (hS:cX s ps) (h:YP kd res v s z ρ w=aeP y):
 ∃b,y=w b/\af5 kd res b p ps z:=by
 unfold YP at h;cases kd with
 |pure=>obtain ⟨h1,h2⟩:=de h;obtain ⟨b,h3,h4⟩:=bU h2;injection h4 with h4;exact ⟨b,h4.symm,Qw hv h1,res.law h3 (QE hv h1)⟩
 |jS=>obtain ⟨h1,h2⟩:=wY h;obtain ⟨u,h3,h4⟩:=bU h2;obtain ⟨b,h5,h6⟩:=bU h4;injection h6 with h6;obtain ⟨q,h7,h8⟩:=aeB hS hv h3;exact ⟨b,h6.symm,MG hv h1 h3,q,h7,res.law h5 h8⟩
 |own=>obtain ⟨u,h3,h4⟩:=bU h;obtain ⟨b,h5,h6⟩:=bU h4;injection h6 with h6;refine ⟨b,h6.symm,fun nx=>?_⟩;obtain ⟨p0,p',q,h7,h8,h9⟩:=Zc hS nx hv h3;exact ⟨p0,p',q,u.2,h9,res.law h5 h7,h8⟩
theorem cX.nil:cX [] []:=⟨rfl,fun t b h=>by simp at h⟩
theorem jj.of {f:FuncId} {x:ax} {α β:Type} {args:bJ α} {res:Arg β} {kd:Kd} {fn:α->Option β} {ow:Bool} (hf:F f=aeP (.code x)) (ho:Wu kd ow=aeS) (II:vu F cx)
 (h: ∀a,Uz cx x args res kd a=fn a):jj F f ⟨args,res,fn,kd,ow⟩:=by
 intro a b as pa aA fz hb hpa hex;have hb:fn a=aeP b:=hb;rw [<- h a] at hb;obtain ⟨r,hr,n,v,s,z,dq,hl⟩:=Cy II (Ov II 8) hf (Kj hpa) cX.nil hb (fun v s' z' p Cw BY w' y' hv hS hk=>S3 hv hS hk);have hr':=hr;subst hr';cases kd with
 |pure=>
  obtain ⟨h1,h2⟩:=hl;have how:ow=aeT:=by simpa [Wu] using ho
  subst how;refine ⟨n,{v:=v,rd:=eJ _ as},?_,v,h2,rfl⟩;simp [ez,hex,hf,dq,h1,]
 |jS=>
  obtain ⟨h1,q,h2,h3⟩:=hl;have how:ow=aeT:=by simpa [Wu] using ho
  subst how;refine ⟨n,{v:=q,rd:=eJ _ as,fr:=eJ _ as},?_,q,h3,rfl⟩;simp [ez,hex,hf,dq,h1,h2]
 |own=>have how:=ho;subst how;obtain ⟨p0,p',q,seen,h1,h2,h3⟩:=hl (aeL aA);refine ⟨n,{v:=p',news:=q,rd:=eJ _ as},?_,p0,p',q,h2,h3,rfl⟩;simp [ez,hex,hf,dq,h1]
theorem QF: ∀(s:List SB) (q:List BX),(EG s q).1.length=aeL s
 | [],q=>rfl
 |b::r,q=>by simp [EG,QF r]
mutual
theorem R.take {s:List SB} {k:Nat}: ∀{v:SV} {p:PV},R s v p->(∀t∈Uu zu v,t<k)->R (s.take k) v p
 | .jM,_,_,_=>trivial
 | .undef,_,h,_| .na,_,h,_| .eW,_,h,_| .int _ _,_,h,_| .bool _,_,h,_| .str _,_,h,_| .sl _ _,_,h,_| .nil _ _,_,h,_| .bp _ _ _,_,h,_| .mp _,_,h,_=>h
 | .agg cs,_,h,ht=>by obtain ⟨q,rfl,h⟩:=h;exact ⟨q,rfl,RL.Ko h ht⟩
 | .cV cs,_,h,ht=>by obtain ⟨q,rfl,h⟩:=h;exact ⟨q,rfl,RL.Ko h ht⟩
 | .bR cs o,_,h,ht=>by obtain ⟨q,rfl,h⟩:=h;exact ⟨q,rfl,RL.Ko h ht⟩
 | .fx f a b,_,h,ht=>by obtain ⟨pa,pb,rfl,h1,h2⟩:=h;exact ⟨pa,pb,rfl,RL.Ko h1 (fun t h=>ht t (abE _ h)),RL.Ko h2 (fun t h=>ht t (abC _ h))⟩
 | .own t ex,_,h,ht=>by
  obtain ⟨e,n,rfl,dH⟩:=h;have hk:=ht t (acm.2 rfl);refine ⟨e,n,rfl,?_⟩;rcases dH with ⟨r,l,h1,h2,h3⟩|h1
  · exact .inl ⟨r,l,by rw [NE hk];exact h1,h2,h3⟩
  exact .inr (by rw [NE hk];exact h1)
 | .pre t a b c,_,h,ht=>by
  obtain ⟨e,rfl,dH⟩:=h;have hk:=ht t (acm.2 rfl);refine ⟨e,rfl,?_⟩;rcases dH with ⟨r,l,h1,h2⟩|h1
  · exact .inl ⟨r,l,by rw [NE hk];exact h1,h2⟩
  exact .inr (by rw [NE hk];exact h1)
 | .part t o a b c,_,h,ht=>by
  obtain ⟨e,rfl,dH⟩:=h;have hk:=ht t (acm.2 rfl);refine ⟨e,rfl,?_⟩;rcases dH with ⟨r,l,h1,h2⟩|h1
  · exact .inl ⟨r,l,by rw [NE hk];exact h1,h2⟩
  exact .inr (by rw [NE hk];exact h1)
 | .pa t r i a o,_,h,ht=>by
  obtain ⟨rfl,dH⟩:=h;have hk:=ht t (abz ..);refine ⟨rfl,?_⟩;rcases dH with ⟨l,h1,h2⟩|h1
  · exact .inl ⟨l,by rw [NE hk];exact h1,h2⟩
  exact .inr (by rw [NE hk];exact h1)
 | .pb t i o,_,h,ht=>by
  obtain ⟨e,rfl,dH⟩:=h;have hk:=ht t (abz ..);refine ⟨e,rfl,?_⟩;rcases dH with ⟨r,l,h1,h2⟩|h1
  · exact .inl ⟨r,l,by rw [NE hk];exact h1,h2⟩
  exact .inr (by rw [NE hk];exact h1)
theorem RL.Ko {s:List SB} {k:Nat}: ∀{v:List SV} {p:List PV},RL s v p->(∀t∈wF zu v,t<k)->RL (s.take k) v p
 | [],_,h,_=>h
 |x::xs,_,h,ht=>by obtain ⟨a,as,rfl,h1,h2⟩:=h.cons_inv;exact RL.cons (R.take h1 (fun t h=>ht t (abE _ h))) (RL.Ko h2 (fun t h=>ht t (abC _ h)))
end
theorem Kp {R' ρ:Type} {w:R'->ρ} {y:ρ}: ∀{s s':List SB} {k:jc R'},H3 s s' k ρ w=aeP y->k ρ w=aeP y/\aeL s'=aeL s/\ ∀(t:Nat) (x z:SB),s[t]? =aeP x->s'[t]? =aeP z->Ze x z
 | [],[],k,h=>⟨h,rfl,fun t x z h=>by simp at h⟩
 | [],_::_,k,h=>by cases h
 |_::_,[],k,h=>by cases h
 |x::xs,y'::ys,k,h=>by
  have step: ∀(_:H3 xs ys k ρ w=aeP y) (_:Ze x y'),k ρ w=aeP y/\(y'::ys).length=(x::xs).length/\ ∀(t:Nat) (a b:SB),(x::xs)[t]? =aeP a->(y'::ys)[t]? =aeP b->Ze a b:=by
   intro h hx;obtain ⟨h1,h2,h3⟩:=Kp h
   grind
  cases x with
  |arr r l=>
   cases y' with
   |arr q m=>obtain ⟨hr,h2⟩:=de h;obtain ⟨hl,h3⟩:=kx h2;exact step h3 ⟨Ck hr,by simpa using hl⟩
   |_=>cases h
  |dead=>cases y' with
   |dead=>exact step h trivial
   |_=>cases h
  |box cs=>cases y' with
   |box _=>exact step h trivial
   |_=>cases h
  |set l=>cases y' with
   |set _=>exact step h trivial
   |_=>cases h
  |nB p l=>cases y' with
   |nB _ _=>exact step h trivial
   |_=>cases h
theorem Kq: ∀{s:List SB},JZ s=aeS-> ∀(t:Nat) (b:SB),s[t]? =aeP b->Dm b=aeS
 | [],_,t,b,h=>by simp at h
 |x::xs,hs,0,b,h=>by simp [JZ,] at hs;grind
 |x::xs,hs,t+1,b,h=>by simp [JZ,] at hs;exact Kq hs.2 t b (by simpa using h)
theorem nC.of {f:FuncId} {x:ax} {wd:Bool} {ka ko:List AK} {ta:List SV} {tb to:List SB} {tv:SV} {fn:kv ka->Option _} (hf:F f=aeP (.code x)) (II:vu F cx)
 (h: ∀a,aoe wd cx x ka ta tb ko tv to a=fn a):nC F f ⟨ka,ta,tb,ko,tv,to,fn⟩:=by
 intro a b pa ps hb ha hS;rw [show (⟨ka,ta,tb,ko,tv,to,fn⟩:fb).fn a=fn a from rfl,<- h a] at hb;have eT:(fb.sa ⟨ka,ta,tb,ko,tv,to,fn⟩ a).length=(aeL tb):=QF _ _;obtain ⟨r,hr,n,v,s,z,dq,hz,hq⟩:=Cy II (Ov II 8) hf (Q:=fun (r:kv ko) p Cw z'=>z'=[]/\j9 (aeL tb) p Cw=aeS/\
  R (fb.sb ⟨ka,ta,tb,ko,tv,to,fn⟩ r) (fb.vb ⟨ka,ta,tb,ko,tv,to,fn⟩ r) p/\cX (fb.sb ⟨ka,ta,tb,ko,tv,to,fn⟩ r) _/\
  (fb.sb ⟨ka,ta,tb,ko,tv,to,fn⟩ r).length=(fb.sa ⟨ka,ta,tb,ko,tv,to,fn⟩ a).length/\
  ∀(t:Nat) (x y:SB),(fb.sa ⟨ka,ta,tb,ko,tv,to,fn⟩ a)[t]? =aeP x->(fb.sb ⟨ka,ta,tb,ko,tv,to,fn⟩ r)[t]? =aeP y->Ze x y) ha hS hb (fun v s' z' p Cw BY w' y' hv hS' hk=>by
  cases z' with
  |cons _ _=>cases hk
  |nil=>
   obtain ⟨hc,hk⟩:=de hk;simp [] at hc;obtain ⟨⟨⟨⟨c1,c2⟩,c3⟩,c4⟩,c5⟩:=hc;obtain ⟨hk,f1,f2⟩:=Kp hk;obtain ⟨r,hr,hk⟩:=bU hk;injection hk with hk;have hu:R s' (bif wd then Mu s' v else v) p:=by
    cases wd with
    |true=>exact UG hv
    |false=>exact hv
   generalize (bif wd then Mu s' v else v)=u at c1 c3 c4 hr hu;have LF:=tY hr;have Zj:fb.vb ⟨ka,ta,tb,ko,tv,to,fn⟩ r=u:=by show (y8 tv _).1=u;rw [LF,I1 _ c1]
   have hsb:fb.sb ⟨ka,ta,tb,ko,tv,to,fn⟩ r=s'.take (aeL tb):=by show (EG to _).1=_;rw [LF,I1 _ c1];have:=FW [] c2;rw [abd] at this;rw [this]
   unfold aeu at c3;rw [abk] at c3;have hkv:=fun t ht=>by simpa using c3 t (abE _ ht)
   have hkb:=fun b hb t ht=>by simpa using c3 t (abC _ (aef.2 ⟨b,hb,ht⟩))
   have Ax:cX (s'.take (aeL tb)) (Cw.take (aeL tb)):=⟨by simp [hS'.len],fun t x hx=>by
    have iz:t<(aeL tb):=by have:=(IR.1 hx).1;rw [abw] at this;omega
    have hx':=hx;rw [NE iz] at hx';obtain ⟨q,q1,q2⟩:=hS'.at_ t x hx';refine ⟨q,by rw [NE iz];exact q1,?_⟩;cases x with
    |box cs=>obtain ⟨pc,rfl,hpc⟩:=q2;exact ⟨pc,rfl,RL.Ko hpc (hkb _ (abu hx))⟩
    |_=>exact q2⟩
   refine ⟨r,hk.symm,rfl,?_,by rw [Zj,hsb];exact R.take hu hkv,by rw [hsb];exact Ax,by rw [hsb];exact f1,by rw [hsb];exact f2⟩;unfold j9;rw [abk];intro t ht;rw [List.mem_append] at ht;rcases ht with ht|ht
   · rw [<- Y7 (fun _=>rfl) hu c4] at ht
     simpa using hkv t ht
   rw [aef] at ht
   obtain ⟨q,hq,ht⟩:=ht;obtain ⟨j,hj,he⟩:=abG hq;have R5:j<(s'.take (aeL tb)).length:=by rw [<- Ax.len];exact hj
   obtain ⟨x,hx⟩: ∃x,(s'.take (aeL tb))[j]? =aeP x:=⟨_,PP R5⟩;obtain ⟨q',q1,q2⟩:=Ax.at_ j x hx;rw [PP hj,he] at q1;injection q1 with q1;subst q1;rw [<- Oj q2 (Kq c5 j x hx)] at ht;simpa using hkb x (abu hx) t ht)
 grind
theorem S4 {f:FuncId} {r:List PT} (hf:F f=aeP (.nN aeT (gV (aeL r)))) (l:List _) (hl:(aeL l)<=1048576) {as:List PV} {aA:cU} {fz:List Nat} (hex:GH aA (B0 aA deep) as=aeP [.sl (aeL r) aeT (l.map (RT.pv r))]):
 ∃n x,ez F (run F n) aeT f as aA fz=aeP x/\aeC .own (aeL aA) (eJ (fS aA deep) as) (.sl r l) x:=by
 refine ⟨0,{v:= .own (aeL aA) (aeL r) 0 (aeL l) (aeL l) aeT,news:=[.arr (aeL r) _],rd:=eJ _ as},?_,.sl (aeL r) aeT _,.own (aeL aA) (aeL r) 0 (aeL l) (aeL l) aeT,[.arr (aeL r) (l.map (RT.pv r))],rfl,by simp [Kg,],rfl⟩;simp [ez,hex,hf];cases l with
 |nil=>rfl
 |cons a l=>
  have h2:aa9 ((l.map (RT.pv r)).length+1) gU=aeS:=by simp [gU] at hl ⊢;omega
  simp only [abf,gV,acl,h2,abe,if_true,Fh];simp [has]
theorem jj.clone {f:FuncId} {n:Nat} {r:List PT} (hf:F f=aeP (.nN aeT (gV n))) (hn:n=aeL r):jj F f (D7.clone r):=by
 intro (a:List _) (b:List _) as pa aA fz hb hpa hex;subst hn;obtain ⟨rfl,hl⟩:=EK hb;have af6:pa=[.sl (aeL r) aeT (b.map (RT.pv r))]:=by
  have:aeP [PV.sl (aeL r) aeT _]=aeP pa:=hpa
  grind
 subst af6;exact S4 hf b hl hex
theorem jj.UB {f:FuncId} (hf:F f=aeP (.nN aeT Ep)):jj F f D7.UB:=by
 intro a b as pa aA fz hb hpa hex;obtain ⟨x,y,c⟩:=a;have HL:tX x y c=aeP b:=hb;unfold tX at HL;cases hc:(aeU (0<=x)&&aeU (0<=y)&&aeU (0<=c)&&aeU (c<=1)) with
 |false=>grind
 |true=>
  rw [hc] at HL;injection HL with HL;subst HL;simp [] at hc;obtain ⟨⟨⟨h1,h2⟩,h3⟩,h4⟩:=hc;obtain ⟨x,rfl⟩:=WF h1;obtain ⟨y,rfl⟩:=WF h2;obtain ⟨c,rfl⟩:=WF h3;have af6:pa=[.int .u64 (.ofNat x),.int .u64 (.ofNat y),.int .u64 (.ofNat c)]:=by have:=hpa;exact (abm this).symm
  subst af6;have hcb:aa9 c 1=aeS:=by simp;omega
  refine ⟨0,{v:= .cV [.int .u64 _,.int .u64 _],rd:=eJ _ as},?_,_,rfl,rfl⟩;simp [ez,hex,hf,Ep,hcb,];rfl
theorem nC.zero {f:FuncId} {c:fb} (h: ∀a,c.fn a=aeR):nC F f c:=fun a b pa ps hb=>by grind
theorem jj.zero {f:FuncId} {c:D7} (h: ∀a,c.fn a=aeR):jj F f c:=fun a b as pa aA fz hb=>by grind
theorem jj.at0 {f:FuncId} {fn:Unit->Option Bool} (h:jj F f ⟨bJ.nil,Arg.bool,fn,.pure,aeT⟩) (hb:fn ()=aeP aeS):jj F f ⟨bJ.nil,Arg.bool,fun _=>aeP aeS,.pure,aeT⟩:=by intro a b as args aA fz hr hp hx;obtain rfl:=abm hr;exact h () aeS as args aA fz hb hp hx
end
end Go.Vm
/- What comes in to a law, as typed values; a law from a contract. -/
namespace Go.Vm
open Go.ChangeShapes Go.WideShapes Go.ChangeAt Go.RowKit
def PT.wf:(p:PT)->p.T->Prop
 | .i k,n=>(Lit.int k n).wf=aeS
 | .b,_=>True
def RT.wf:(r:List PT)->RT r->Prop
 | [],_=>True
 | [p],a=>p.wf a
 |p::q::r,a=>p.wf a.1/\RT.wf (q::r) a.2
def nD (r:List PT) (vs:List SV):Prop:= ∃a:RT r,vs=RT.sv r a/\RT.wf r a
def XI (r:List PT) (vs:List SV):Prop:= ∃l:List (RT r),vs=[.sl r l]/\ ∀a∈l,RT.wf r a
def LW:List (List SV->Prop)->List SV->Prop
 | [],vs=>vs=[]
 |K::Ks,vs=> ∃a b,vs=a++b/\K a/\LW Ks b
theorem nD.cons {p:PT}: ∀{r:List PT} {a b:List SV},nD [p] a->nD r b->nD (p::r) (a++b)
 | [],a,b,⟨x,hx,wx⟩,⟨y,hy,_⟩=>⟨x,by rw [hx,hy];rfl,wx⟩
 |q::r,a,b,⟨x,hx,wx⟩,⟨y,hy,wy⟩=>⟨(x,y),by rw [hx,hy];rfl,wx,wy⟩
theorem nD.split {p q:PT} {r:List PT} {vs:List SV}:nD (p::q::r) vs-> ∃a b,vs=a++b/\nD [p] a/\nD (q::r) b
 |⟨x,hx,wx⟩=>⟨[p.sv x.1],RT.sv (q::r) x.2,hx,⟨x.1,rfl,wx.1⟩,⟨x.2,rfl,wx.2⟩⟩
theorem nD.app: ∀{r s:List PT} {a b:List SV},nD r a->nD s b->nD (r++s) (a++b)
 | [],s,a,b,⟨x,hx,_⟩,h=>by have:a=[]:=hx;subst this;exact h
 | [p],s,a,b,h,k=>nD.cons h k
 |p::q::r,s,a,b,h,k=>by
  obtain ⟨a1,a2,rfl,h1,h2⟩:=nD.split h
  rw [aba];exact nD.cons h1 (nD.app h2 k)
theorem og: ∀{rs:List (List PT)} {vs:List SV},LW (rs.map nD) vs->nD rs.flatten vs
 | [],vs,h=>by have:vs=[]:=h;subst this;exact ⟨(),rfl,trivial⟩
 |r::rs,vs,⟨a,b,h1,h2,h3⟩=>by subst h1;rw [List.flatten_cons];exact nD.app h2 (og h3)
def cD (P : Program) (t : TypeId) (K : List SV -> Prop) : Prop :=
  ∀ (H : Type) (enc : TypeId × Value -> H) (w : World) (Cj : Nat) (cs : List Value) (x : DataW H × List MemPlace), DataW.trod enc P w 0 (fun _ => aeS) aeS Cj t cs = aeP x ->
    ∃ vs q, K vs /\ wj vs = aeP q /\ fW (LR w) iI q cs
section
variable {P : Program}
theorem cD.mono {t:TypeId} {K K':List SV->Prop} (h:cD P t K) (hk: ∀vs,K vs->K' vs):cD P t K':=fun H enc w Cj cs x hx=>by obtain ⟨vs,q,h1,h2,h3⟩:=h H enc w Cj cs x hx;exact ⟨vs,q,hk vs h1,h2,h3⟩
theorem cD.int {t:TypeId} {k:IntKind} (ht:P.underlying t=aeP (.int k)):cD P t (nD [.i k]):=fun H enc w Cj cs x h=>by obtain ⟨n,rfl,_,hw⟩:=DataW.trod_int ht h;exact ⟨[.int k n],[.int k n],⟨n,rfl,hw⟩,rfl,.cons _ _ _ _ (.int k n) .nil⟩
theorem cD.bool {t:TypeId} (ht:P.underlying t=aeP .bool):cD P t (nD [.b]):=fun H enc w Cj cs x h=>by obtain ⟨b,rfl,_⟩:=DataW.trod_bool ht h;exact ⟨[.bool b],[.bool b],⟨b,rfl,trivial⟩,rfl,.cons _ _ _ _ (.bool b) .nil⟩
def eV (P:Program):List Field->List (List SV->Prop)->Nat->Prop
 | [],[],_=>True
 |f::fs,K::Ks,off=>f.offset=off/\cD P f.type K/\eV P fs Ks (off+P.cellsOf f.type)
 |_,_,_=>False
theorem eV.nil {off:Nat}:eV P [] [] off:=trivial
theorem eV.cons {f:Field} {fs:List Field} {K:List SV->Prop} {Ks:List (List SV->Prop)} {off:Nat} (h1:f.offset=off) (h2:cD P f.type K) (h3:eV P fs Ks (off+P.cellsOf f.type)):eV P (f::fs) (K::Ks) off:=⟨h1,h2,h3⟩
def zS (P:Program):List Field->Nat
 | []=>0
 |f::fs=>P.cellsOf f.type+zS P fs
theorem Kr {im:Im} {loc:Loc}: ∀{p:List PV} {vs:List Value} {q:List PV} {us:List Value},fW im loc p vs->fW im loc q us->fW im loc (p++q) (vs++us)
 | [],[],_,_,.nil,h=>h
 |_::_,_::_,_,_,.cons x v xs ws h hs,k=> .cons x v _ _ h (Kr hs k)
theorem Kt {H:Type} {enc:TypeId×Value->H} {w:World} {n:Nat} {cs:List Value}: ∀{fs:List Field} {Ks:List (List SV->Prop)} {off:Nat},eV P fs Ks off->aeL cs=off+zS P fs->
 (∀f∈fs,∃x,DataW.trod enc P w 0 (fun _=>aeS) aeS n f.type ((cs.drop f.offset).take (P.cellsOf f.type))=aeP x)-> ∃vs q,LW Ks vs/\wj vs=aeP q/\fW (LR w) iI q (cs.drop off)
 | [],[],off,_,hl,_=>⟨[],[],rfl,rfl,by rw [List.drop_eq_nil_of_le (by simp [zS] at hl;omega)];exact .nil⟩
 |f::fs,K::Ks,off,⟨h1,h2,h3⟩,hl,hx=>by
  obtain ⟨x,Mn⟩:=hx f (by simp);obtain ⟨vs,q,k1,k2,k3⟩:=h2 H enc w n _ x Mn;obtain ⟨RU,q',k1',k2',k3'⟩:=Kt (n:=n) h3 (by simp only [zS] at hl;omega) (fun g hg=>hx g (by simp [hg]));refine ⟨vs++RU,q++q',⟨vs,RU,rfl,k1,k1'⟩,EI k2 k2',?_⟩;rw [h1] at k3;have:cs.drop off=(cs.drop off).take (P.cellsOf f.type)++cs.drop (off+P.cellsOf f.type):=by rw [<- List.drop_drop,List.take_append_drop]
  rw [this];exact Kr k3 k3'
 | [],_::_,_,h,_,_=>h.elim
 |_::_,[],_,h,_,_=>h.elim
theorem cD.struct {t:TypeId} {fs:Array Field} {Ks:List (List SV->Prop)} (ht:P.underlying t=aeP (.struct fs)) (hF:eV P fs.toList Ks 0) (hc:P.cellsOf t=zS P fs.toList):cD P t (LW Ks):=fun H enc w Cj cs x h=>by
 obtain ⟨xs,n,rfl,_,hl,hxl,tF⟩:=DataW.trod_struct ht h;have:=Kt (P:=P) (enc:=enc) (w:=w) (n:=n) (cs:=cs) hF (by omega) (fun f hf=>by
  obtain ⟨i,hi,he⟩:=List.mem_iff_getElem.1 hf;have xk:i<fs.size:=by simpa using hi
  have hg:fs[i]? =aeP f:=by rw [acr xk];simpa using he
  have:=tF i f hg;rw [PP (by omega)] at this;exact ⟨_,this⟩)
 rwa [abo] at this
theorem RT.vrl {r:List PT} {a:RT r} {q:List PV} (h:wj (RT.sv r a)=aeP q):q=RT.pv r a:=by rw [RT.Mw] at h;exact (abm h).symm
theorem fW.nth {im:Im} {loc:Loc}: ∀{p:List PV} {vs:List Value},fW im loc p vs-> ∀(k:Nat) (c:PV),p[k]? =aeP c-> ∃v,vs[k]? =aeP v/\VR im loc c v
 |_::_,_::_,.cons x v xs ws h hs,0,c,hc=>by simp at hc;subst hc;exact ⟨v,by simp,h⟩
 |_::_,_::_,.cons x v xs ws h hs,k+1,c,hc=>by obtain ⟨u,h1,h2⟩:=fW.nth hs k c (by simpa using hc);exact ⟨u,by simpa using h1,h2⟩
theorem cD.slice {t e:TypeId} {r:List PT} (ht:P.underlying t=aeP (.slice e)) (he:cD P e (nD r)) (hc:P.cellsOf e=aeL r) (hr:0<aeL r):cD P t (XI r):=fun H enc w Cj cs x h=>by
 rcases Go.Deep.open_slice ht h with ⟨rfl,_⟩|⟨a,len,cap,m,n,D,Pl,rfl,_,hl,hm,hmm,_,hx⟩
 · exact ⟨[.sl r []],[.sl (aeL r) aeT []],⟨[],rfl,by simp⟩,rfl,.cons _ _ _ _ (.sl (aeL r) aeT [] aeR 0 (ad2 _) (fun h=>by cases h) (fun h=>absurd rfl h)) .nil⟩
 have Fx:len<=m:=by rw [hmm];split<;>omega
 have each: ∀i,i<len-> ∃A:RT r,RT.wf r A/\ ∃Mb,w.cells? 0 (a.add (i*aeL r)) (aeL r)=aeP Mb/\fW (LR w) iI (RT.pv r A) Mb:=by intro i hi;obtain ⟨Mb,h1,h2⟩:=hx i (by omega);obtain ⟨vs,q,⟨A,hA,wA⟩,k2,k3⟩:=he H enc w n Mb _ h2;subst hA;rw [RT.vrl k2] at k3;rw [hc] at h1;exact ⟨A,wA,Mb,h1,k3⟩
 have ch: ∃A:Nat->RT r,∀i,i<len->RT.wf r (A i)/\ ∃Mb,w.cells? 0 (a.add (i*aeL r)) (aeL r)=aeP Mb/\fW (LR w) iI (RT.pv r (A i)) Mb:=by
  classical
  refine ⟨fun i=>if h:i<len then (each i h).choose else RT.zero r,fun i hi=>?_⟩;simp only [dif_pos hi];exact (each i hi).choose_spec
 obtain ⟨A,hA⟩:=ch;refine ⟨[.sl r ((ae0 len).map A)],[.sl (aeL r) aeT (((ae0 len).map A).map (RT.pv r))],⟨_,rfl,fun x hx=>?_⟩,rfl,.cons _ _ _ _ ?_ .nil⟩
 · obtain ⟨i,hi,rfl⟩:=aeJ.1 hx
   exact (hA i (List.mem_range.1 hi)).1
 have eT:(((ae0 len).map A).map (RT.pv r)).length=len:=by simp
 have:=VR.sl (im:=LR w) (loc:=iI) (aeL r) aeT (((ae0 len).map A).map (RT.pv r)) (aeP a) cap (by rw [eT];exact hl) (fun h=>by cases h) (fun fy=>by
  have PM:0<len:=by
   rcases ae3 len with h|h
   · subst h;exact absurd rfl fy
   exact h
  obtain ⟨_,cs0,h0,_⟩:=hA 0 PM;obtain ⟨_,RS,LL⟩:=ae9 h0;obtain ⟨b,off,spot⟩:=a;have ajz:spot=aeR:=by have h1:=LL 0 hr;rw [PP (by omega)] at h1;simpa [Addr.add] using World.cell?_spot h1
  subst ajz;refine ⟨b,off,rfl,fun i row zB=>?_⟩;simp only [List.map_map,ad4,aaE] at zB;obtain ⟨j,hj,rfl⟩:=zB;have R5:=dm hj;have:j=i:=by rw [List.getElem?_range (by simpa using R5)] at hj;exact (abm hj).symm
  subst this;have ajA:j<len:=by simpa using R5
  obtain ⟨_,Mb,h1,h2⟩:=hA j ajA;obtain ⟨_,Me,LD⟩:=ae9 h1;refine ⟨RT.Cr r (A j),fun k c hk=>?_⟩;obtain ⟨v,hv,tM⟩:=fW.nth h2 k c hk;have hkr:k<(aeL r):=by
   have:=dm hk
   rwa [Function.comp,RT.Cr] at this
  have cc:=LD k hkr;rw [hv] at cc;rw [Go.WideShapes.add_plain,Go.WideShapes.add_plain] at cc;have R4:c.plain=aeS:=abk.1 (RT.plain r (A j)) c (abu hk);exact ⟨v,tM.plain R4,V5 cc⟩)
 rw [eT] at this;exact this
theorem cD.aox {t:TypeId} {fs:Array Field} {K:List SV->Prop} (h:cD P t K) (ht:P.underlying t=aeP (.struct fs)) {H:Type} {enc:TypeId×Value->H} {w:World} {qB:Nat} {v:Value} {d:DataW H} {p:List MemPlace}
 (hv:Value.okWide P w .any qB t v) (hd:DataW.Trod enc P w 0 (fun _=>aeS) aeS t v d p): ∃vs q,K vs/\wj vs=aeP q/\VR (LR w) iI (.agg q) v:=by
 obtain ⟨cs,rfl,_⟩:=okWide_struct ht hv;obtain ⟨Cj,hf⟩:=hd;obtain ⟨vs,q,k1,k2,k3⟩:=h H enc w Cj _ _ hf;exact ⟨vs,q,k1,k2,.agg q _ k3⟩
theorem cD.aoy {t e:TypeId} {r:List PT} (h:cD P t (XI r)) (ht:P.underlying t=aeP (.slice e)) {H:Type} {enc:TypeId×Value->H} {w:World} {qB:Nat} {v:Value} {d:DataW H} {p:List MemPlace}
 (hv:Value.okWide P w .any qB t v) (hd:DataW.Trod enc P w 0 (fun _=>aeS) aeS t v d p): ∃l:List (RT r),(∀a∈l,RT.wf r a)/\VR (LR w) iI (.sl (aeL r) aeT (l.map (RT.pv r))) v:=by
 obtain ⟨a,len,cap,rfl⟩:=okWide_slice ht hv;obtain ⟨Cj,hf⟩:=hd;obtain ⟨vs,q,⟨l,rfl,hw⟩,k2,k3⟩:=h H enc w Cj _ _ hf;have hq:q=[.sl (aeL r) aeT (l.map (RT.pv r))]:=by have:wj [SV.sl r l]=aeP [.sl (aeL r) aeT (l.map (RT.pv r))]:=rfl;rw [this] at k2;exact (abm k2).symm
 subst hq;refine ⟨l,hw,?_⟩;generalize wB:(Value.slice a len cap).cells.toList=cs at k3;have:cs=[Value.slice a len cap]:=by rw [<- wB];rfl
 subst this;cases k3 with
 |cons _ _ _ _ h1 _=>exact h1
theorem cD.aoz {t:TypeId} {k:IntKind} (ht:P.underlying t=aeP (.int k)) {H:Type} {enc:TypeId×Value->H} {w:World} {qB:Nat} {v:Value} {d:DataW H} {p:List MemPlace}
 (hv:Value.okWide P w .any qB t v) (hd:DataW.Trod enc P w 0 (fun _=>aeS) aeS t v d p): ∃n,(Lit.int k n).wf=aeS/\VR (LR w) iI (.int k n) v:=by
 obtain ⟨n,rfl,_,_,hw⟩:=open_int ht hv hd;exact ⟨n,hw,.int k n⟩
theorem wf_i64 {n:Int} (h:(Lit.int .i64 n).wf=aeS): -9223372036854775808<=n/\n<9223372036854775808:=by
 simp only [Lit.wf,If,decide_eq_true_eq] at h;have e1:IntKind.i64.min= -9223372036854775808:=by decide
 have e2:IntKind.i64.max=9223372036854775807:=by decide
 rw [e1,e2] at h;omega
end
theorem jj.aoA {F:p8} {f:FuncId} {x:ax} {α:Type} {A:bJ α} {fn:α->Option Bool} (h:jj F f ⟨A,Arg.bool,fn,.pure,aeT⟩) (hf:F f=aeP (.code x)) {a:α} (hb:fn a=aeP aeS) {ps:List PV} (hp:wj (A.enc a)=aeP ps) (hx:GH [] (B0 [] deep) ps=aeP ps):
 ∃n s z,run F n (.func f ps [] [])=aeP (.func (.bool aeS) s z):=by
 obtain ⟨n,r,h1,p,h2,rfl⟩:=h a aeS ps ps [] [] hb hp hx;have hp':p= .bool aeS:=(abm h2).symm;subst hp';refine ⟨n,?_⟩;simp only [ez,hx,hf] at h1;split at h1
 · rename_i v s z hr
   simp only [abi,if_false] at h1;split at h1
   · injection h1 with h1
     injection h1 with h1;subst h1;exact ⟨s,z,hr⟩
   rename_i hn
   split at h1
   · rename_i v' hv
     injection h1 with h1;injection h1 with h1;subst h1;exfalso;cases v with
     |bool b=>exact hn rfl
     |int _ _|str _|sl _ _ _=>injection hv with hv;cases hv
     |agg cs=>simp only [DW,aaE] at hv;obtain ⟨_,_,hv⟩:=hv;cases hv
     |cV cs=>simp only [DW,aaE] at hv;obtain ⟨_,_,hv⟩:=hv;cases hv
     |own t e off len cap ex=>simp only [DW] at hv;split at hv<;>first|(injection hv with hv;cases hv)|cases hv
     |_=>cases hv
   cases h1
 cases h1
end Go.Vm
/- What comes in to a law, by the codes of its types. -/
namespace Go.Vm
def KC {α:Type} (C:bL α) (W:α->Prop) (vs:List SV):Prop:= ∃c,vs=C.enc c/\W c
section
variable {α β : Type} {C : bL α} {D : bL β} {W : α -> Prop} {V : β -> Prop} {Ks : List (List SV -> Prop)}
theorem KC.one (vs:List SV):LW [KC C W] vs->KC C W vs
 |⟨_,_,h,k,e⟩=>by rw [h,show _=[] from e,abd];exact k
theorem KC.cons (k: ∀vs,LW Ks vs->KC D V vs) (vs:List SV):LW (KC C W::Ks) vs->KC (C.prod D) (fun p=>W p.1/\V p.2) vs
 |⟨_,_,h,⟨x,e,w⟩,m⟩=>by obtain ⟨y,e',v⟩:=k _ m;exact ⟨(x,y),by rw [h,e,e'];rfl,w,v⟩
theorem KC.H4 {f:α->β} {g:β->α} {h: ∀a,g (f a)=a} (k: ∀vs,LW Ks vs->KC C W vs) (hw: ∀a,W a->V (f a)) (vs:List SV) (m:LW Ks vs):KC (C.H4 f g h) V vs:=by obtain ⟨x,e,w⟩:=k _ m;exact ⟨f x,by rw [e];exact congrArg C.enc (h x).symm,hw _ w⟩
theorem eV.co {P:Program} {f:Field} {fs:List Field} {K:List SV->Prop} {off:Nat} (h2:cD P f.type K) (h3:eV P fs Ks (off+P.cellsOf f.type)) (h1:f.offset=off:=by kernel_rfl):eV P (f::fs) (K::Ks) off:=⟨h1,h2,h3⟩
theorem eV.cr {P:Program} {f:Field} {fs:List Field} {r:List PT} {off:Nat} (h2:cD P f.type (nD r)) (h3:eV P fs Ks (off+P.cellsOf f.type)) (h1:f.offset=off:=by kernel_rfl):eV P (f::fs) (KC (bL.row r) (RT.wf r)::Ks) off:=⟨h1,h2,h3⟩
theorem eV.ci {P:Program} {f:Field} {fs:List Field} {k:IntKind} {off:Nat} (h2:cD P f.type (nD [.i k])) (h3:eV P fs Ks (off+P.cellsOf f.type)) (h1:f.offset=off:=by kernel_rfl):eV P (f::fs) (KC (bL.int k) (PT.wf (.i k))::Ks) off:=⟨h1,h2,h3⟩
theorem eV.cb {P:Program} {f:Field} {fs:List Field} {off:Nat} (h2:cD P f.type (nD [.b])) (h3:eV P fs Ks (off+P.cellsOf f.type)) (h1:f.offset=off:=by kernel_rfl):eV P (f::fs) (KC bL.bool (PT.wf .b)::Ks) off:=⟨h1,h2,h3⟩
theorem eV.cl {P:Program} {f:Field} {fs:List Field} {r:List PT} {off:Nat} (h2:cD P f.type (XI r)) (h3:eV P fs Ks (off+P.cellsOf f.type)) (h1:f.offset=off:=by kernel_rfl):eV P (f::fs) (KC (bL.sl r) (fun l=> ∀a∈l,RT.wf r a)::Ks) off:=⟨h1,h2,h3⟩
theorem cD.st {P:Program} {t:TypeId} {fs:Array Field} {K:List SV->Prop} (ht:P.underlying t=aeP (.struct fs)) (hF:eV P fs.toList Ks 0) (hk: ∀vs,LW Ks vs->K vs) (hc:P.cellsOf t=zS P fs.toList:=by kernel_rfl):cD P t K:=(cD.struct ht hF hc).mono hk
theorem cD.sll {P:Program} {t e:TypeId} {r:List PT} (ht:P.underlying t=aeP (.slice e)) (he:cD P e (nD r)) (hc:P.cellsOf e=(aeL r):=by kernel_rfl) (hr:0<(aeL r):=by decide):cD P t (XI r):= .slice ht he hc hr
end
end Go.Vm
/- A function that puts the rows of a slice in order: what is asked of it in a program, and that the table's entry is then right. -/
namespace Go.Vm
theorem Ku: ∀{p:PT} {x:PV} {a:p.T},FK p x=aeP a->x=p.pv a
 | .i k,.int l n,a,h=>by
  have h:(bif gM l k then aeP n else aeR)=aeP a:=h;cases hk:gM l k with
  |false=>rw [hk] at h;cases h
  |true=>rw [hk] at h;obtain rfl:=gx.1 hk;injection h with h;subst h;rfl
 | .b,.bool x,a,h=>by have h:aeP x=aeP a:=h;injection h with h;subst h;rfl
theorem MN: ∀{r:List PT} {x:List PV} {a:RT r},LU r x=aeP a->x=RT.pv r a
 | [],[],a,h=>rfl
 | [],_::_,a,h=>by cases h
 | [p],[v],a,h=>by rw [Ku (show FK p v=aeP a from h)];rfl
 | [p],[],a,h=>by cases h
 | [p],_::_::_,a,h=>by cases h
 |p::q::r,[],a,h=>by cases h
 |p::q::r,v::vs,a,h=>by
  have h:(match FK p v,LU (q::r) vs with
   |some a,aeP b=>aeP (a,b)
   |_,_=>aeR)=aeP a:=h
  cases h1:FK p v with
  |none=>rw [h1] at h;cases h
  |some x=>
   cases h2:LU (q::r) vs with
   |none=>rw [h1,h2] at h;cases h
   |some y=>rw [h1,h2] at h;injection h with h;subst h;rw [Ku h1,MN h2];rfl
theorem Kv {r:List PT}: ∀{x:List (List PV)} {l:List (RT r)},HX r x=aeP l->x=l.map (RT.pv r)
 | [],l,h=>by injection h with h;subst h;rfl
 |v::vs,l,h=>by
  have h:(match LU r v,HX r vs with
   |some a,aeP l=>aeP (a::l)
   |_,_=>aeR)=aeP l:=h
  cases h1:LU r v with
  |none=>rw [h1] at h;cases h
  |some x=>
   cases h2:HX r vs with
   |none=>rw [h1,h2] at h;cases h
   |some y=>rw [h1,h2] at h;injection h with h;subst h;rw [MN h1,Kv h2];rfl
def af7:Option FuncId->List Value
 |none=>[]
 |some g=>[.func (.func g) ⟨[]⟩ ⟨[]⟩]
structure Cz (P:Program) (f:FuncId) (q:Srt):Prop where
 some_: ∀(b off c:Nat) (l m:List (RT q.r)) (arr:Array Value) (el:TypeId) (w:World),0<aeL l->aeL l<=c->aeL l<=1048576->q.fn l=aeP m->aeL m=aeL l->w.heap[b]? =aeP (.cells arr el (0,0))->
  bY (fun k=>arr[k]?) off (aeL q.r) (l.map (RT.pv q.r))->off+aeL l*aeL q.r<=arr.size->
  Calls P f ⟨.slice (aeP ⟨b,off,aeR⟩) (aeL l) c::af7 q.g⟩ w fun x w'=>x= .returned (.tuple #[])/\(∃fin:Array Value,fin.size=arr.size/\w'.heap[b]? =aeP (.cells fin el (0,0))/\bY (fun k=>fin[k]?) off (aeL q.r) (m.map (RT.pv q.r))/\
   ∀j:Nat,off+aeL l*aeL q.r<=j->fin[j]? =arr[j]?)/\(∀b':Nat,b'<w.heap.size->b'≠b->w'.heap[b']? =w.heap[b']?)/\w.heap.size<=w'.heap.size/\w'.os=w.os/\Tape w w'/\w'.output=w.output
 none_: ∀(a:Option Addr) (c:Nat) (w:World),Calls P f ⟨.slice a 0 c::af7 q.g⟩ w fun x w'=>x= .returned (.tuple #[])/\w'=w
theorem af8 {im:Im} {loc:Loc} {g:Option FuncId} {r:List PV} {us:List Value} (h:ab2 g r=aeS) (hu:fW im loc r us):us=af7 g:=by
 unfold ab2 at h;split at h
 · cases hu;rfl
 · rename_i g h'
   have:h'=g:=by simpa using h
   subst this;cases hu with
   |cons _ a _ b h1 h2=>
    cases h2;cases h1 with
    |fx _ _ _ a2 bs ha hb=>cases ha;cases hb;rfl
 cases h
theorem Wv {im:Im} {loc:Loc} {aA:cU} {fz:List Nat} {w w':World} {t e:Nat} {li:LI} {rows wc:List Row} {arr fin:Array Value} {el:TypeId} (ov:SR im loc aA fz w) (hl:loc t=aeP li) (cO:aA[t]? =aeP (.arr e rows)) (fy:rows≠[]) (hf:has fz t=aeT)
 (_ha:w.heap[li.eg]? =aeP (.cells arr el (0,0))) (hw:w'.heap[li.eg]? =aeP (.cells fin el (0,0))) (yX: ∀b':Nat,b'<w.heap.size->b'≠li.eg->w'.heap[b']? =w.heap[b']?) (wb:w.heap.size<=w'.heap.size) (ho:w'.os=w.os) (ht:Tape w w') (hp:w'.output=w.output)
 (he:li.aO=e) (hn:li.n=aeL wc) (eT:(aeL wc)=aeL rows) (hfs:fin.size=li.sz) (wC:li.sh+aeL wc*e<=li.sz) (hr:bY (fun k=>fin[k]?) li.sh e wc):
 zF im loc aA w (.cV []) (aA.set t (.arr e wc)) fz im loc w' (.tuple #[]):=by
 have VT:t<(aeL aA):=(IR.1 cO).1;have ae4:wc≠[]:=by intro h;subst h;rw [List.length_nil] at eT;exact fy (abj.1 eT.symm)
 have Pr:(om.arr e rows).bW=aeS:=qX fy;have hs1:(om.arr e wc).bW=aeS:=qX ae4;have Jr:=ov.free t li _ hl cO Pr hf;have old: ∀{u:Nat} {k:om},(aA.set t (.arr e wc))[u]? =aeP k->(u=t/\k= .arr e wc)\/(u≠t/\aA[u]? =aeP k):=by
  intro u k h;rw [ab1] at h;split at h
  · rename_i e1;subst e1;first|(rw [AC VT] at h;injection h with h;exact .inl ⟨rfl,h.symm⟩)|(injection h with h;exact .inl ⟨rfl,h.symm⟩)
  rename_i fy;exact .inr ⟨fun e=>fy e.symm,h⟩
 have sol: ∀{u:Nat} {k:om},(aA.set t (.arr e wc))[u]? =aeP k->k.bW=aeS-> ∃k0,aA[u]? =aeP k0/\k0.bW=aeS:=by
  intro u k h hs;rcases old h with ⟨rfl,rfl⟩|⟨_,h⟩
  · exact ⟨_,cO,Pr⟩
  exact ⟨k,h,hs⟩
 have lt: ∀{b:Nat} {o:Obj},w.heap[b]? =aeP o->b<w.heap.size:=fun h=>(aco.1 h).1
 exact {
  jt:= .refl _,eS:= .refl _
  vr:= .cV _ _ .nil
  sr:={
   bP:=fun b o hb=>by
    have h1:=ov.bP b o hb;have h2:b≠li.eg:=fun h=>by rw [h,Jr] at hb;cases hb
    rw [yX b (lt h1) h2];exact h1
   eg:=fun u lu hu=>by
    obtain ⟨k,hk,hb⟩:=ov.eg u lu hu
    by_cases e1:u=t
    · subst e1
      rw [hl] at hu;injection hu with hu;subst hu;exact ⟨_,List.getElem?_set_self VT,he,hn,fun _=>⟨fin,el,hw,hfs,wC,hr⟩⟩
    refine ⟨k,by rw [List.getElem?_set_ne (fun h=>e1 h.symm)];exact hk,hb.gS (.refl _) (.refl _) fun hs=>?_⟩
    exact yX _ (hb.lt hs) fun h=>e1 (ov.k7 _ _ _ _ _ _ hu hl hk cO hs Pr h)
   k7:=fun u v lu lv k k' hu hv hk LM hs BP h=>by obtain ⟨k0,a,b⟩:=sol hk hs;obtain ⟨k1,c,d⟩:=sol LM BP;exact ov.k7 _ _ _ _ _ _ hu hv a c b d h
   free:=fun u lu k hu hk hs hz=>by obtain ⟨k0,a,b⟩:=sol hk hs;exact ov.free _ _ _ hu a b hz}
  os:=ho,tape:=ht,output:=hp,size:=wb
  frame:=fun b hb h=>yX b hb fun h2=>h t li _ hl cO Pr h2.symm
  fa:=fun b o h=> .inl h
  rR:=fun u lu h=> .inl h
  own:=fun u lu k hu hk hs=>by obtain ⟨k0,a,b⟩:=sol hk hs;exact .inr ⟨u,lu,k0,hu,a,b,rfl⟩}
theorem S5 {im:Im} {loc:Loc} {aA:cU} {fz:List Nat} {w:World} (ov:SR im loc aA fz w):zF im loc aA w (.cV []) aA fz im loc w (.tuple #[]) where
 jt:= .refl _
 eS:= .refl _
 vr:= .cV _ _ .nil
 sr:=ov
 os:=rfl
 tape:= .refl _
 output:=rfl
 size:=ad2 _
 frame:=fun _ _ _=>rfl
 fa:=fun _ _ h=> .inl h
 rR:=fun _ _ h=> .inl h
 own:=fun t li k hl hk hs=> .inr ⟨t,li,k,hl,hk,hs,rfl⟩
theorem Fs.srt {P:Program} {f:FuncId} {q:Srt} {fn:Func} {c:Code} (hf:P.funcs[f]? =aeP fn) (we:(fn.name== "runtime.NumGoroutine")=aeT) (hb:fn.body=aeP c) (h0:q.fn []=aeP []) (H:Cz P f q):Fs P f (Od q):=by
 refine ⟨fn,c,hf,we,hb,?_⟩;intro args aA fz v zG NQ hp im loc w us ov Dd;unfold Od at hp;split at hp
 case h_2=>cases hp
 rename_i t e1 off len cap ex r;split at hp
 case h_2=>cases hp
 rename_i e3 rows cO;split at hp
 case isFalse=>cases hp
 rename_i hc;simp only [If,adY,Bool.not_eq_true',Nat.ble_eq] at hc;obtain ⟨⟨⟨⟨⟨q1,rfl⟩,eT⟩,lz⟩,XT⟩,hg⟩:=hc;subst q1;have lz:len<=1048576:=lz;split at hp
 case h_2=>cases hp
 rename_i l RS;split at hp
 case h_2=>cases hp
 rename_i m hm;split at hp
 case isFalse=>cases hp
 rename_i RW;have RW:(aeL m)=(aeL l):=by simpa using RW
 injection hp with hp;simp only [aew] at hp;obtain ⟨rfl,rfl,rfl⟩:=hp;have oG:=Kv RS;have Fi:(aeL l)=len:=by have:=congrArg List.length oG;rw [abw,abb] at this;omega
 obtain ⟨x0,V3,rfl,N3,Dd⟩: ∃x0 V3,us=x0::V3/\VR im loc (.own t (aeL q.r) 0 len cap ex) x0/\fW im loc r V3:=by cases Dd with|cons _ a _ b h1 h2=>exact ⟨a,b,rfl,h1,h2⟩
 obtain rfl:=af8 hg Dd;obtain ⟨li,a,eh,rfl,hl,he,GN,hlc,T5,_,IC⟩:=N3.jK;obtain ⟨k1,j8,yf⟩:=ov.eg t li hl;rw [cO] at j8;injection j8 with j8;subst j8;obtain ⟨b1,b2,b3⟩:=yf;obtain rfl:(aeL q.r)=e3:=by rw [<- b1,he]
 refine .inr ⟨kq hf we hb,?_⟩;rcases ae3 len with hz|PM
 · subst hz
   obtain rfl:l=[]:=abj.1 Fi;rw [h0] at hm;injection hm with hm;subst hm;refine (H.none_ a eh w).mono fun x w' ⟨hx,hw⟩=>⟨_,hx,im,loc,?_⟩
   subst hw;have:aA.set t (.arr (aeL q.r) (([]:List (RT q.r)).map (RT.pv q.r)++rows.drop 0))=aA:=by
    apply ad3;intro j;rw [ab1];split
    · rename_i e;subst e;rw [AC (IR.1 cO).1,cO];rfl
    rfl
   rw [this];exact S5 ov
 have vo:rows≠[]:=by intro h;subst h;simp at eT;omega
 obtain ⟨arr,el,DQ,RR,PJ,dH⟩:=b3 vo;obtain ⟨hn0,rfl,wC⟩:li.n≠0/\a=aeP ⟨li.eg,li.sh,aeR⟩/\li.sh+eh*aeL q.r<=li.sz:=by
  rcases IC with h|⟨h1,h2,h3⟩
  · omega
  exact ⟨h1,by simpa using h2,by simpa using h3⟩
 have p9:len*aeL q.r<=aeL rows*(aeL q.r):=Nat.mul_le_mul_right _ eT;subst Fi;refine (H.some_ li.eg li.sh eh l m arr el w PM (by omega) (by omega) hm RW DQ (by rw [<- oG];exact dH.take _) (by omega)).mono fun x w' ⟨hx,⟨fin,f1,f2,f3,f4⟩,yX,wb,ho,htp,hpp⟩=>⟨_,hx,im,loc,?_⟩
 have hL:(m.map (RT.pv q.r)++rows.drop (aeL l)).length=(aeL rows):=by simp only [List.length_append,abb,List.length_drop,RW];omega
 refine Wv ov hl cO vo XT DQ f2 yX wb ho htp hpp b1 (by rw [hL];exact b2) hL (by rw [f1];exact RR) (by rw [hL];exact PJ) ?_;refine f3.append ?_;rw [abb,RW];intro i r hr;obtain ⟨g1,g2⟩:=(dH.drop (aeL l)) i r hr;refine ⟨g1,fun j c hc=>?_⟩;obtain ⟨v,v1,v2⟩:=g2 j c hc;refine ⟨v,v1,?_⟩;show fin[_]? =aeP v;rw [f4 _ (by omega)];exact v2
end Go.Vm
/- slices.Sort of numbers: the table's entry, by what the library's law says of the function. -/
namespace Go.Vm
theorem Hd (a:Int): ∀l:List Int,(Su a l).Perm (a::l)
 | []=> .refl _
 |b::r=>by
  unfold Su;cases aeU (a<=b)
  · exact ((Hd a r).cons b).trans (.swap a b r)
  exact .refl _
theorem AU: ∀l:List Int,(q9 l).Perm l
 | []=> .refl _
 |a::r=>(Hd a _).trans ((AU r).cons a)
theorem H9 (a:Int): ∀{l:List Int},l.Pairwise (· <= ·)->(Su a l).Pairwise (· <= ·)
 | [],_=>by simp [Su]
 |b::r,h=>by
  obtain ⟨h1,h2⟩:=acp.1 h;unfold Su;cases hc:aeU (a<=b)
  · have hc: ¬a<=b:=by simpa using hc
    refine acp.2 ⟨fun x hx=>?_,H9 a h2⟩
    grind [Hd]
  refine acp.2 ⟨fun x hx=>?_,h⟩
  grind
theorem AV: ∀l:List Int,(q9 l).Pairwise (· <= ·)
 | []=> .nil
 |a::r=>H9 a (AV r)
theorem Dt (l:List Int):(q9 l).length=(aeL l):=(AU l).length_eq
theorem QG (l:List Int):l.mergeSort (fun x y=>decide (x<=y))=q9 l:=by
 refine List.Perm.eq_of_pairwise (le:=(· <= ·)) (fun a b _ _ h1 h2=>Int.le_antisymm h1 h2) ?_ (AV l) ((List.mergeSort_perm _ _).trans (AU l).symm)
 grind [List.pairwise_mergeSort]
theorem S6 {P:Program} {f:FuncId}
 (H1: ∀(eg off cap:Nat) (zs:List Int) (w:World),Sort.Holds (Value.int .i64) w eg off zs.toArray->eg<w.heap.size->aeL zs<4611686018427387904->
  Calls P f #[.slice (aeP ⟨eg,off,aeR⟩) (aeL zs) cap] w fun e w'=>e= .returned (.tuple #[])/\ ∃n os,w'=Sort.grow (Sort.putRow (Value.int .i64) (Sort.ahead w n) eg off (zs.mergeSort fun x y=>decide (x<=y)).toArray) os)
 (b off c:Nat) (l:List Int) (arr:Array Value) (el:TypeId) (w:World) (lz:(aeL l)<=1048576) (hw:w.heap[b]? =aeP (.cells arr el (0,0)))
 (dH:bY (fun k=>arr[k]?) off 1 (l.map (RT.pv [.i .i64]))) (wC:off+aeL l*1<=arr.size):
 Calls P f #[.slice (aeP ⟨b,off,aeR⟩) (aeL l) c] w fun x w'=>x= .returned (.tuple #[])/\(∃fin:Array Value,fin.size=arr.size/\w'.heap[b]? =aeP (.cells fin el (0,0))/\bY (fun k=>fin[k]?) off 1 ((q9 l).map (RT.pv [.i .i64]))/\
  ∀j:Nat,off+aeL l*1<=j->fin[j]? =arr[j]?)/\(∀b':Nat,b'<w.heap.size->b'≠b->w'.heap[b']? =w.heap[b']?)/\w.heap.size<=w'.heap.size/\w'.os=w.os/\Tape w w'/\w'.output=w.output:=by
 have ajC:=(aco.1 hw).1;have cells: ∀(j:Nat),j<aeL l->arr[off+j]? =aeP (.int .i64 (l.toArray)[j]!):=fun j hj=>by
  have h1:(l.map (RT.pv [.i .i64]))[j]? =aeP (RT.pv [.i .i64] l[j]):=by rw [ad4,PP hj];rfl
  obtain ⟨_,h2⟩:=dH j _ h1;obtain ⟨v,v1,v2⟩:=h2 0 (.int .i64 l[j]) rfl;injection v1 with v1;subst v1;rw [show off+j*1+0=off+j by omega] at v2;have:(l.toArray)[j]! =l[j]:=by rw [getElem!_pos _ j (by simpa using hj)];simp
  rw [this];exact v2
 have hH:Sort.Holds (Value.int .i64) w b off l.toArray:=fun j hj=>by
  have hj:j<(aeL l):=by simpa using hj
  refine ⟨?_,?_⟩
  · simp only [World.cell?,hw];exact cells j hj
  simp [World.frozen?,hw]
 refine (H1 b off c l w hH ajC (by omega)).mono fun x w' ⟨hx,n,os,hw'⟩=>⟨hx,?_⟩
 subst hw';rw [QG];have RW:=Dt l;have hp:(Sort.putRow (Value.int .i64) (Sort.ahead w n) b off (q9 l).toArray).heap=w.heap.modify b (Sort.onCells (Sort.putCells (Value.int .i64) off (q9 l).toArray)):=rfl;have wb:(w.heap.modify b (Sort.onCells (Sort.putCells (Value.int .i64) off (q9 l).toArray))).size=w.heap.size:=Array.size_modify;have LJ: ∀k:Nat,k<w.heap.size->(Sort.grow (Sort.putRow (Value.int .i64) (Sort.ahead w n) b off (q9 l).toArray) os).heap[k]? =(w.heap.modify b (Sort.onCells (Sort.putCells (Value.int .i64) off (q9 l).toArray)))[k]?:=fun k hk=>by
  show (_++os)[k]? =_;rw [hp,Array.getElem?_append,AC (by rw [wb];exact hk)]
 refine ⟨⟨Sort.putCells (Value.int .i64) off (q9 l).toArray arr,by simp [Sort.putCells],?_,?_,?_⟩,fun k hk fy=>?_,?_,rfl,⟨rfl,Nat.le_add_right _ _⟩,rfl⟩
 · rw [LJ b ajC,adU,AC rfl,hw];rfl
 · intro i r hr
   rw [ad4,aaE] at hr;obtain ⟨a,ha,rfl⟩:=hr;have hi:=(IR.1 ha).1;refine ⟨rfl,fun j c hc=>?_⟩;cases j with
   |succ j=>cases hc
   |zero=>
    injection hc with hc;subst hc;refine ⟨_,rfl,?_⟩;show (Sort.putCells _ _ _ _)[off+i*1+0]? =_;rw [show off+i*1+0=off+i by omega];unfold Sort.putCells;rw [adV,acr (by omega),adh,AC ⟨by omega,by simp;omega⟩,show off+i-off=i by omega];have:((q9 l).toArray)[i]! =a:=by rw [getElem!_pos _ i (by simpa using hi)];have:=(IR.1 ha).2;simpa using this
    rw [this]
 · intro j hj
   have hj:off+aeL l<=j:=by omega
   unfold Sort.putCells;rw [adV];cases arr[j]? with
   |none=>rfl
   |some x=>rw [adh,Do];intro h;have:=h.2;simp [] at this;omega
 · rw [LJ k hk,adU,Do (fun h=>fy h.symm)]
 simp
theorem Cz.int {P:Program} {f:FuncId}
 (H1: ∀(eg off cap:Nat) (zs:List Int) (w:World),Sort.Holds (Value.int .i64) w eg off zs.toArray->eg<w.heap.size->aeL zs<4611686018427387904->
  Calls P f #[.slice (aeP ⟨eg,off,aeR⟩) (aeL zs) cap] w fun e w'=>e= .returned (.tuple #[])/\ ∃n os,w'=Sort.grow (Sort.putRow (Value.int .i64) (Sort.ahead w n) eg off (zs.mergeSort fun x y=>decide (x<=y)).toArray) os)
 (H0: ∀(p:Option Addr) (cap:Nat) (w:World),Calls P f #[.slice p 0 cap] w fun e w'=>e= .returned (.tuple #[])/\w'=w):Cz P f SC where
 none_ a c w:=H0 a c w
 some_ b off c l m arr el w _ _ lz hfn _ hw dH wC:=by
  obtain rfl:q9 l=m:=by injection hfn
  exact S6 H1 b off c l arr el w lz hw dH wC
end Go.Vm
