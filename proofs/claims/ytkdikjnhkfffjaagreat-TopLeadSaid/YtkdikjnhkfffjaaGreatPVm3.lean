/- The logical machine, part 3: SvOps1, SvOps2, SvOps3, SvOps4, SvNorm, SvCall, SvFp, SvRun, SvCon, SvLaw, SvLaw2, SvSort, SvSortI. -/
import Derived.Test.YtkdikjnhkfffjaaGreatPVm2
import Derived.Sort.Grow
open Nat renaming eq_of_beq_eq_true->EQ,ble->WF,beq->aaP,le_of_ble_eq_true->aaQ,blt->abV,lt_or_ge->ac3,beq_refl->ad4,min_eq_left->ad5,le_refl->ado,eq_zero_or_pos->ae0,le_of_lt->ae1
open Bool renaming and_eq_true->If,false_eq_true->abM,and_self->acI,and_true->adu,true->aej,false->aek
open List renaming getElem?_eq_some_iff->IR,getElem?_take_of_lt->NE,getElem?_eq_getElem->PP,getElem?_set->aai,getElem?_append_right->abq,replicate->abr,getElem?_append_left->abt,append_assoc->abu,length_eq_zero_iff->abv,all_eq_true->abw,length_cons->abx,take_of_length_le->aby,map_take->abz,map_cons->abA,drop_zero->abB,mem_of_getElem?->abC,getElem?_eq_none_iff->abE,length_map->abF,append_nil->abK,mem_cons_self->abN,mem_append_right->abP,length_take->abQ,mem_cons_of_mem->abS,mem_append_left->abT,getElem_of_mem->abU,mem_singleton->ac6,pairwise_cons->ack,ext_getElem?->acm,getElem?_map->acF,map_drop->acG,range->adw,mem_flatMap->ae7,map_append->aea,all_map->aec,mem_map->aed,length->aef
open Int renaming eq_ofNat_of_zero_le->UV,ofNat->abD,le_trans->abX
open Option renaming map_eq_some_iff->ab0,getD_none->ad3,map_some->ad6,getD_some->ae6,some->aeg,none->aei
open Option.some renaming inj->abL
open Array renaming getElem?_eq_some_iff->aci,getElem?_eq_getElem->acl,getElem?_modify->ad7,getElem?_mapIdx->adc
open Go.World renaming cells?_some->ae2
open Prod.mk renaming injEq->aeb
open Decidable renaming decide->aem
/- Operation by operation: what the typed machine does, the logical machine does; the easy ones. -/
namespace Go.Vm
structure Good(s:List SB)(ps:di)(sr:iR)(pr:rQ):Prop where
 rd:pr.rd=sr.rd
 fr:pr.fr=sr.fr
 wr:pr.wr.map (·.1)=FH sr.wr
 nw:AE pr.wr=aej
 nl:(aef pr.news)=aef sr.news
 aB:de (sr.rh s) (zH (lH pr.wr ps) pr.news)
 v:R (sr.rh s) sr.v pr.v
 fra:Fr (FH sr.wr) s (sr.rh s)
section
variable {s : List SB} {ps : di}
theorem Good.val(hS:de s ps){v:SV}{p:PV}{rd fr:List Nat}(hv:R s v p):Good s ps {v,rd,fr} {v:=p,rd,fr} where
 rd:=rfl
 fr:=rfl
 wr:=rfl
 nw:=rfl
 nl:=rfl
 aB:=by simp[iR.rh,qg,];exact hS
 v:=by simp[iR.rh,qg,];exact hv
 fra:=by simp[iR.rh,qg,];exact Fr.refl _ _
theorem Good.news(hS:de s ps){v:SV}{p:PV}{l:List SB}{q:di}{rd:List Nat}(hl:(aef q)=aef l)(hb: ∀(j:Nat) (b:SB),l[j]? =aeg b-> ∃x,q[j]? =aeg x/\RB (s++l) b x)(hv:R (s++l) v p):
 Good s ps {v,news:=l,rd} {v:=p,news:=q,rd} where
 rd:=rfl
 fr:=rfl
 wr:=rfl
 nw:=rfl
 nl:=hl
 aB:=by simp[iR.rh,qg,yo];exact hS.app hl hb
 v:=by simp[iR.rh,qg];exact hv
 fra:=by simp[iR.rh,qg];exact Fr.app _ _ _
theorem Good.new(hS:de s ps){v:SV}{p:PV}{b:SB}{q:ox}{rd:List Nat}(hb:RB (s++[b]) b q)(hv:R (s++[b]) v p):Good s ps {v,news:=[b],rd} {v:=p,news:=[q],rd}:=
 Good.news hS rfl (λj x h=>by
  grind) hv
def U4(b0 b:SB):Prop:=
 match b0 with
 | .arr r l=>(∃l',b= .arr r l'/\aef l'=aef l)\/b= .dead
 | .dead=>b= .dead
 | .box _=>(∃cs,b= .box cs)\/b= .dead
 |_=>True
theorem Fr.set{t:Nat}{b0 b:SB}(h0:s[t]? =aeg b0)(hk:U4 b0 b):Fr [t] s (s.set t b):=λu x hu=>by
 by_cases hut:t=u
 ·subst hut
  rw[h0]at hu;injection hu with hu;subst hu;have iL:=(IR.1 h0).1;have hb:(s.set t b)[t]? =aeg b:=by simp[iL]
  cases b0 with
  |arr r l=>
   rcases hk with⟨l',rfl,hl⟩|rfl
   ·exact .inl ⟨l',hb,hl,λh=>by simp[has]at h⟩
   exact .inr hb
  |dead=>rw[hk]at hb ⊢;exact hb
  |box cs=>
   rcases hk with⟨c2,rfl⟩|rfl
   ·grind
   exact .inr hb
  |_=>trivial
 grind
theorem de.put(hS:de s ps){t:Nat}{b0 b:SB}{q:ox}(h0:s[t]? =aeg b0)(hk:U4 b0 b)(hq:RB (IG [t] (s.set t b)) (dgB [t] b) q):de (IG [t] (s.set t b)) (ps.set t q) where
 len:=by simp[AU,hS.len]
 at_:=λu x hu=>by
  have iL:=(IR.1 h0).1;rw[wT]at hu
  by_cases hut:t=u
  ·subst hut
   have hb:(s.set t b)[t]? =aeg b:=by simp[iL]
   rw[hb]at hu;simp at hu;subst hu;exact⟨q,by rw[aai];simp[hS.len,iL],hq⟩
  simp[hut,]at hu
  obtain⟨y,hy,rfl⟩:=hu;obtain⟨q',h1,h2⟩:=hS.at_ u y hy;exact⟨q',by grind,h2.fr (Fr.dg (Fr.set h0 hk))⟩
theorem Good.put(hS:de s ps){v:SV}{p:PV}{t:Nat}{b0 b:SB}{q:ox}{l:List SB}{ql:di}{rd:List Nat}(h0:s[t]? =aeg b0)(hk:U4 b0 b)(hq:RB (IG [t] (s.set t b)) (dgB [t] b) q)
 (hl:(aef ql)=aef l) (hb: ∀(j:Nat) (x:SB),l[j]? =aeg x-> ∃y,ql[j]? =aeg y/\RB (IG [t] (s.set t b)++l) x y) (hv:R (IG [t] (s.set t b)++l) v p):
 Good s ps {v,wr:=[(t,b)],news:=l,rd} {v:=p,wr:=[(t,q)],news:=ql,rd} where
 rd:=rfl
 fr:=rfl
 wr:=rfl
 nw:=rfl
 nl:=hl
 aB:=by simp[iR.rh,qg,yo,xI,FJ];exact(hS.put h0 hk hq).app hl hb
 v:=by simp[iR.rh,qg,xI,FJ];exact hv
 fra:=by simp[iR.rh,qg,xI,FJ];exact(Fr.dg (Fr.set h0 hk)).trans (Fr.app _ _ _)
theorem Good.Y'(hS:de s ps){t:Nat}{b0 b:SB}{q:ox}{rd:List Nat}(h0:s[t]? =aeg b0)(hk:U4 b0 b)(hq:RB (IG [t] (s.set t b)) (dgB [t] b) q):
 Good s ps {v:= .undef,wr:=[(t,b)],rd} {v:= .undef,wr:=[(t,q)],rd}:=
 Good.put hS h0 hk hq rfl (λj x h=>by simp at h) rfl
end
section
variable {R' ρ : Type} {w : R' -> ρ} {y : ρ}
theorem bV{α:Type}{x:Option α}{k:α->js R'}(h:oA x k ρ w=aeg y): ∃a,x=aeg a/\k a ρ w=aeg y:=by
 cases x with
 |none=>cases h
 |some a=>exact⟨a,rfl,h⟩
theorem dz{α:Type}{x:Option α}{k:α->js R'}(h:oF x k ρ w=aeg y): ∃a,x=aeg a/\k a ρ w=aeg y:=SA h
theorem gR{c:Bool}{a b:js R'}(h:jx c a b ρ w=aeg y):(c=aej/\a ρ w=aeg y)\/(c=aek/\b ρ w=aeg y):=SC h
theorem dm{c:Bool}{a:js R'}(h:(bif c then a else aU) ρ w=aeg y):c=aej/\a ρ w=aeg y:=by
 cases c
 ·cases h
 grind
theorem xk{c:Bool}{a:js R'}(h:(bif c then aU else a) ρ w=aeg y):c=aek/\a ρ w=aeg y:=by
 cases c
 ·grind
 cases h
theorem kF{c:Bool}{a:js R'}(h:jx c a aU ρ w=aeg y):c=aej/\a ρ w=aeg y:=by
 rcases gR h with⟨h1,h2⟩|⟨_,h2⟩
 ·grind
 cases h2
theorem AV{c:Bool}{a:js R'}(h:jx c aU a ρ w=aeg y):c=aek/\a ρ w=aeg y:=by
 rcases gR h with⟨_,h2⟩|⟨h1,h2⟩
 ·cases h2
 grind
end
def iX{R':Type}(s:List SB)(ps:di)(po:Option rQ)(k:iR->js R')(ρ:Type)(w:R'->ρ)(y:ρ):Prop:=
 ∃sr pr,po=aeg pr/\Good s ps sr pr/\k sr ρ w=aeg y
section
variable {R' ρ : Type} {w : R' -> ρ} {y : ρ} {s : List SB} {ps : di} {e : SE} {pe : Env} {z : List Nat} {k : iR -> js R'}
theorem iX.val(hS:de s ps){po:Option rQ}{v:SV}{p:PV}(h:k {v} ρ w=aeg y)(hp:po=aeg {v:=p})(hv:R s v p):iX s ps po k ρ w y:=
 ⟨_,_,hp,Good.val hS hv,h⟩
theorem iX.rd(hS:de s ps){po:Option rQ}{v:SV}{p:PV}{rd:List Nat}(h:k {v,rd} ρ w=aeg y)(hp:po=aeg {v:=p,rd})(hv:R s v p):iX s ps po k ρ w y:=
 ⟨_,_,hp,Good.val hS hv,h⟩
theorem qL(hE:eS s e pe){x:ib}{a:IntKind}{n:Int}(h:cH e x= .int a n):x.ev pe= .int a n:=by have:=eO hE x;rw[h]at this;exact this
theorem FK(hE:eS s e pe){x:ib}{b:Bool}(h:cH e x= .bool b):x.ev pe= .bool b:=by have:=eO hE x;rw[h]at this;exact this
theorem Wt(hE:eS s e pe){x:ib}{v:SV}(h:cH e x=v):R s v (x.ev pe):=by
 grind[eO]
theorem Qq(k:IntKind):hO k k=aej:=by cases k<;>rfl
theorem SX(hS:de s ps){op:BinOp}{a:IntKind}{m n:Int}(h:SF op a m n (ofV k) ρ w=aeg y): ∃p,arith op a m n=aeg p/\iX s ps (aeg {v:=p}) k ρ w y:=by
 cases op with
 |quo=>
  obtain⟨h1,h2⟩:=AV h;have hn:n≠0:=by grind
  exact⟨_,by simp[arith,Do hn],iX.val hS h2 rfl rfl⟩
 |rem=>
  obtain⟨h1,h2⟩:=AV h;have hn:n≠0:=by grind
  exact⟨_,by simp[arith,Do hn],iX.val hS h2 rfl rfl⟩
 |shl=>cases h
 |shr=>cases h
 |_=>exact⟨_,rfl,iX.val hS h rfl rfl⟩
theorem acq(hE:eS s e pe)(hS:de s ps){op:BinOp}{a b:ib}(h:qK e s z (.bin op a b) k ρ w=aeg y):iX s ps (bO pe ps z (.bin op a b)) k ρ w y:=by
 simp[qK]at h;generalize ha:cH e a=va at h;cases va with
 |int ka m=>
  generalize hb:cH e b=vb at h;cases vb with
  |int kb n=>
   have h1:=qL hE ha;have h2:=qL hE hb;have key:(op≠ .shl)->(op≠ .shr)->(bif hO ka kb then SF op ka m n (ofV k)else aU) ρ w=aeg y->iX s ps (bO pe ps z (.bin op a b)) k ρ w y:=by
    intro n1 n2 h;obtain⟨hk,h⟩:=dm h;obtain⟨p,hp,hs⟩:=SX hS h;have:bO pe ps z (.bin op a b)=aeg {v:=p}:=by simp[bO,h1,h2];cases op<;>first|exact absurd rfl n1|exact absurd rfl n2|(simp only[VM,hk,hp];rfl)
    grind
   cases op with
   |shl=>
    obtain⟨hc,h⟩:=AV h;have IB: ¬n<0:=by simpa using hc
    exact iX.val hS h (by simp[bO,h1,h2,VM,GC,Do IB];rfl) rfl
   |shr=>
    obtain⟨hc,h⟩:=AV h;have IB: ¬n<0:=by simpa using hc
    exact iX.val hS h (by simp[bO,h1,h2,VM,GC,Do IB];rfl) rfl
   |_=>grind
  |_=>cases h
 |_=>cases h
theorem Za(hE:eS s e pe)(hS:de s ps){neg:Bool}{a b:ib}(h:qK e s z (.Pu neg a b) k ρ w=aeg y):iX s ps (bO pe ps z (.Pu neg a b)) k ρ w y:=by
 simp[qK]at h;generalize ha:cH e a=va at h;cases va with
 |bool x=>
  generalize hb:cH e b=vb at h;cases vb with
  |bool x'=>refine iX.val hS h ?_ rfl;simp only[bO,FK hE ha,FK hE hb];simp
  |_=>cases h
 |_=>cases h
theorem Zb: ∀{xs ys:List SV} {ps qs:List PV} {r:Bool},RL s xs ps->RL s ys qs->eqS xs ys=aeg r->dZ ps qs=aeg r
 | [],[],ps,qs,r,h1,h2,h=>by rw[h1,h2];exact h
 |x::xs,b::ys,ps,qs,r,h1,h2,h=>by
  obtain⟨p,ps,rfl,a1,a2⟩:=h1.cons_inv;obtain⟨q,qs,rfl,b1,b2⟩:=h2.cons_inv;simp[eqS]at h;split at h
  ·rename_i ka m kb n
   have a1':=a1;have b1':=b1;subst a1' b1';cases hk:hO ka kb with
   |false=>grind
   |true=>
    rw[hk]at h;have hc:xu (.int ka m) (.int kb n)=aeg (m==n):=by simp[xu,hk,]
    simp[dZ,hc];cases xs with
    |nil=>
     cases ys with
     |nil=>simp[]at h;subst h;rw[a2,b2];cases m==n<;>rfl
     |cons _ _=>cases h
    |cons x2 xs2=>
     simp[]at h;split at h
     ·rename_i r' hr
      injection h with h;subst h;rw[Zb a2 b2 hr]
      grind
     cases h
  cases h
 | [],_::_,ps,qs,r,h1,h2,h=>by cases h
 |_::_,[],ps,qs,r,h1,h2,h=>by cases h
theorem acr(hE:eS s e pe)(hS:de s ps){n:Nat}{neg:Bool}{a b:ib}(h:qK e s z (.eqc n neg a b) k ρ w=aeg y):iX s ps (bO pe ps z (.eqc n neg a b)) k ρ w y:=by
 simp[qK]at h;generalize ha:cH e a=va at h;cases va with
 |agg xs=>
  generalize hb:cH e b=vb at h;cases vb with
  |agg ys=>obtain⟨hl,h⟩:=dm h;obtain⟨r,hr,h⟩:=bV h;obtain⟨p,hp,h1⟩:=Wt hE ha;obtain⟨q,hq,h2⟩:=Wt hE hb;refine iX.val hS h ?_ rfl;simp only[bO,hp,hq,h1.pN,h2.pN];rw[AC hl,Zb h1 h2 hr];simp
  |_=>cases h
 |_=>cases h
theorem afW(hE:eS s e pe)(hS:de s ps){op:UnOp}{a:ib}(h:qK e s z (.un op a) k ρ w=aeg y):iX s ps (bO pe ps z (.un op a)) k ρ w y:=by
 simp only[qK]at h;cases op with
 |neg=>
  generalize ha:cH e a=va at h;cases va with
  |int ka n=>exact iX.val hS h (by simp only[bO,qL hE ha];rfl) rfl
  |_=>cases h
 |not=>
  generalize ha:cH e a=va at h;cases va with
  |bool b=>exact iX.val hS h (by simp[bO,FK hE ha];rfl) rfl
  |_=>cases h
 |_=>cases h
theorem Zc(hE:eS s e pe)(hS:de s ps){a:IntKind}{x:ib}(h:qK e s z (.conv a x) k ρ w=aeg y):iX s ps (bO pe ps z (.conv a x)) k ρ w y:=by
 simp[qK]at h;generalize ha:cH e x=va at h;cases va with
 |int ka n=>exact iX.val hS h (by simp[bO,qL hE ha]) rfl
 |_=>cases h
theorem acs(hE:eS s e pe)(hS:de s ps){x:ib}(h:qK e s z (.len x) k ρ w=aeg y):iX s ps (bO pe ps z (.len x)) k ρ w y:=by
 simp[qK]at h;have hx:=eO hE x;generalize cH e x=v at h hx;cases v with
 |nil e' c=>exact iX.val hS h (by simp only[bO,show x.ev pe= .sl e' c []from hx];rfl) rfl
 |pre t len cap ex=>obtain⟨e',hx,_⟩:=hx;exact iX.val hS h (by simp[bO,hx]) rfl
 |part t off len cap ex=>obtain⟨e',hx,_⟩:=hx;exact iX.val hS h (by simp[bO,hx]) rfl
 |sl q m=>exact iX.val hS h (by simp[bO,show x.ev pe=_ from hx,]) rfl
 |own t ex=>
  obtain⟨c,hc,h⟩:=bV h;simp[D',cT]at hc;split at hc
  ·rename_i q m dd
   injection hc with hc;subst hc;obtain⟨e',n,hx,dO⟩:=hx;rcases dO with⟨q',m',h1,rfl,rfl⟩|h1
   ·rw[dd]at h1;injection h1 with h1;cases h1
    exact iX.val hS h (by simp[bO,hx]) rfl
   grind
  cases hc
 |bs t e' n ex=>exact iX.val hS h (by simp only[bO,show x.ev pe= .own t e' 0 n n ex from hx];rfl) rfl
 |_=>obtain⟨c,hc,h⟩:=bV h;cases hc
theorem FL: ∀{l:List _} {pl:List _} {cs:List SV} {pc:List PV} {r:List SV},
 (aef pl=aef l/\ ∀(j:Nat) (a:Nat×Nat×SV),l[j]? =aeg a-> ∃b,pl[j]? =aeg (a.1,a.2.1,b)/\R s a.2.2 b)->RL s cs pc->AR l cs=aeg r-> ∃q,qS pl pc=aeg q/\RL s r q
 | [],pl,cs,pc,r,hl,hc,h=>by have:=abv.1 hl.1;subst this;injection h with h;subst h;exact⟨pc,rfl,hc⟩
 |(off,sz,v)::l,pl,cs,pc,r,hl,hc,h=>by
  cases pl with
  |nil=>simp at hl
  |cons p pl=>
   obtain⟨b,h1,h2⟩:=hl.2 0 _ rfl;simp at h1;subst h1;simp[AR]at h;split at h
   ·rename_i w hw
    obtain⟨q,hq,hqr⟩:=h2.stored hw;cases ajd:(aaP (aef w) sz&&WF (off+sz) (aef cs))with
    |false=>grind
    |true=>
     rw[ajd]at h;obtain⟨q2,h3,h4⟩:=FL ⟨by simpa using hl.1,λj a ha=>hl.2 (j+1) a (by simpa using ha)⟩ (Dy hqr hc) h;simp only[qS,hq,hqr.pN,hc.pN]
     grind
   cases h
theorem Qr(hE:eS s e pe): ∀(l:List _),((l.map λp=>(p.1,p.2.1,p.2.2.ev pe)).length=(Cv e l).length/\ ∀(j:Nat) (a:Nat×Nat×SV),(Cv e l)[j]? =aeg a-> ∃b,(l.map λp=>(p.1,p.2.1,p.2.2.ev pe))[j]? =aeg (a.1,a.2.1,b)/\R s a.2.2 b)
 | []=>⟨rfl,λj a h=>by simp[Cv]at h⟩
 |p::l=>by
  obtain⟨h1,h2⟩:=Qr hE l;refine⟨by simp[Cv]at h1 ⊢;omega,λj a h=>?_⟩;cases j with
  |zero=>simp[Cv]at h;subst h;exact⟨_,rfl,eO hE _⟩
  |succ j=>simp[Cv,]at h;grind
theorem Wu(hE:eS s e pe)(hS:de s ps){zero:List PV}{parts:List _}(h:qK e s z (.build zero parts) k ρ w=aeg y):iX s ps (bO pe ps z (.build zero parts)) k ρ w y:=by obtain⟨cs,hc,h⟩:=bV h;obtain⟨q,hq,hr⟩:=FL (Qr hE parts) (AT s zero) hc;exact iX.val hS h (by simp only[bO,hq];rfl) ⟨q,rfl,hr⟩
theorem acu(hE:eS s e pe)(hS:de s ps){x:ib}(h:qK e s z (.box x) k ρ w=aeg y):iX s ps (bO pe ps z (.box x)) k ρ w y:=by obtain⟨cs,hc,h⟩:=bV h;obtain⟨q,hq,hr⟩:=(eO hE x).stored hc;refine⟨_,_,?_,Good.new hS (b:= .box cs) (v:= .bp (aef s) (aef cs) 0) ⟨q,rfl,hr.ext (Fr.app _ _ _)⟩ rfl,h⟩;simp[bO,hq,hS.len,hr.pN]
theorem Wv(hS:de s ps){cells:List PV}(h:qK e s z (.alloc cells) k ρ w=aeg y):iX s ps (bO pe ps z (.alloc cells)) k ρ w y:=by refine⟨_,_,?_,Good.new hS (b:= .box _) (v:= .bp (aef s) (aef cells) 0) ⟨cells,rfl,AT _ _⟩ rfl,h⟩;simp[bO,hS.len]
theorem Zd(hE:eS s e pe)(hS:de s ps){x:ib}(h:qK e s z (.Pv x) k ρ w=aeg y):iX s ps (bO pe ps z (.Pv x)) k ρ w y:=by
 simp[qK]at h;have hx:=eO hE x;generalize cH e x=v at h hx;cases v with
 |pa t r i a o=>exact iX.val hS h (by simp[bO,hx.1]) ⟨rfl,hx.2⟩
 |pb t i o=>obtain⟨e',h1,h2⟩:=hx;exact iX.val hS h (by simp[bO,h1]) ⟨e',rfl,h2⟩
 |bp t n o=>exact iX.val hS h (by simp[bO,show x.ev pe=_ from hx]) rfl
 |bZ c o=>obtain⟨q,h1,h2⟩:=hx;exact iX.val hS h (by simp[bO,h1]) ⟨q,rfl,h2⟩
 |fE f a b=>obtain⟨pa,pb,h1,h2⟩:=hx;exact iX.val hS h (by simp[bO,h1]) ⟨pa,pb,rfl,h2⟩
 |_=>cases h
theorem Ze(hE:eS s e pe)(hS:de s ps){off:Nat}{x:ib}(h:qK e s z (.Pw off x) k ρ w=aeg y):iX s ps (bO pe ps z (.Pw off x)) k ρ w y:=by
 simp[qK]at h;have hx:=eO hE x;generalize cH e x=v at h hx;cases v with
 |pa t r i a o=>exact iX.val hS h (by simp[bO,hx.1]) ⟨rfl,hx.2⟩
 |pb t i o=>obtain⟨e',h1,h2⟩:=hx;exact iX.val hS h (by simp[bO,h1]) ⟨e',rfl,h2⟩
 |bp t n o=>exact iX.val hS h (by simp[bO,show x.ev pe=_ from hx]) rfl
 |bq t n r o=>exact iX.val hS h (by simp[bO,show x.ev pe=_ from hx]) rfl
 |bZ c o=>obtain⟨q,h1,h2⟩:=hx;exact iX.val hS h (by simp[bO,h1]) ⟨q,rfl,h2⟩
 |_=>cases h
theorem acv(hE:eS s e pe)(hS:de s ps){agg:Option Nat}{off:Nat}{x:ib}(h:qK e s z (.dI agg off x) k ρ w=aeg y):iX s ps (bO pe ps z (.dI agg off x)) k ρ w y:=by
 simp[qK]at h;generalize hv:cH e x=v at h;cases v with
 |agg cs=>obtain⟨v,h1,h⟩:=bV h;obtain⟨q,h2,h3⟩:=Wt hE hv;obtain⟨p,h4,h5⟩:=uW h3 h1;exact iX.val hS h (by simp only[bO,h2,h4];rfl) h5
 |_=>cases h
theorem acw(hE:eS s e pe)(hS:de s ps){i:Nat}{x:ib}(h:qK e s z (.ext i x) k ρ w=aeg y):iX s ps (bO pe ps z (.ext i x)) k ρ w y:=by
 simp[qK]at h;generalize hv:cH e x=v at h;cases v with
 |cV cs=>obtain⟨v,h1,h⟩:=bV h;obtain⟨q,h2,h3⟩:=Wt hE hv;obtain⟨p,h4,h5⟩:=h3.nth h1;exact iX.val hS h (by simp only[bO,h2,h4];rfl) h5
 |_=>cases h
theorem acx(hE:eS s e pe)(hS:de s ps){f:FuncId}{a b:List ib}(h:qK e s z (.mkf f a b) k ρ w=aeg y):iX s ps (bO pe ps z (.mkf f a b)) k ρ w y:=by exact iX.val hS h rfl ⟨_,_,rfl,Dw hE a,Dw hE b⟩
theorem acy(hS:de s ps){m:Option PV}(h:qK e s z (.mkm m) k ρ w=aeg y):iX s ps (bO pe ps z (.mkm m)) k ρ w y:=by
 cases m with
 |none=>refine⟨_,_,?_,Good.new hS (b:= .set []) (v:= .mp (aef s)) rfl rfl,h⟩;simp[bO,hS.len]
 |some m=>obtain⟨p,_,h⟩:=bV h;refine⟨_,_,?_,Good.new hS (b:= .mI p []) (v:= .mp (aef s)) rfl rfl,h⟩;simp[bO,hS.len]
theorem aeH: ∀{l:List SV} {q:List PV} {m:Bool} {a:IntKind} {n:Int} {v:SV},RL s l q->mmS m a n l=aeg v-> ∃p,mmE m a n q=aeg p/\R s v p
 | [],q,m,a,n,v,hl,h=>by rw[hl];injection h with h;subst h;exact⟨_,rfl,rfl⟩
 |x::l,q,m,a,n,v,hl,h=>by
  obtain⟨p,q,rfl,h1,h2⟩:=hl.cons_inv;simp[mmS]at h;split at h
  ·rename_i b c
   have Y9:=h1;subst Y9;cases hk:hO a b with
   |true=>
    rw[hk]at h;obtain⟨p,h3,h4⟩:=aeH h2 h;refine⟨p,?_,h4⟩;simp[mmE,]
    grind
   |false=>grind
  cases h
theorem afX(hE:eS s e pe)(hS:de s ps){m:Bool}{x:ib}{xs:List ib}(h:qK e s z (.mm m x xs) k ρ w=aeg y):iX s ps (bO pe ps z (.mm m x xs)) k ρ w y:=by
 simp[qK]at h;generalize hv:cH e x=v at h;cases v with
 |int a n=>obtain⟨v,h1,h⟩:=bV h;obtain⟨p,h2,h3⟩:=aeH (Dw hE xs) h1;exact iX.val hS h (by simp only[bO,qL hE hv,h2];rfl) h3
 |_=>cases h
theorem Zf(hE:eS s e pe)(hS:de s ps){c a b:ib}(h:qK e s z (.pick c a b) k ρ w=aeg y):iX s ps (bO pe ps z (.pick c a b)) k ρ w y:=by
 simp[qK]at h;generalize hv:cH e c=v at h;cases v with
 |bool x=>
  rcases gR h with⟨rfl,h⟩|⟨rfl,h⟩
  ·exact iX.val hS h (by simp[bO,FK hE hv]) (eO hE a)
  exact iX.val hS h (by simp[bO,FK hE hv]) (eO hE b)
 |_=>cases h
end
end Go.Vm
/- Operation by operation, second part: elements, blocks, slices, sets. -/
namespace Go.Vm
section
variable {R' ρ : Type} {w : R' -> ρ} {y : ρ} {s : List SB} {ps : di} {e : SE} {pe : Env} {z : List Nat} {k : iR -> js R'}
theorem de.arr(hS:de s ps){t:Nat}{r:List PT}{l:List _}(h:s[t]? =aeg (.arr r l)):ps[t]? =aeg (.arr (aef r) (l.map (RT.pv r))):=by obtain⟨q,h1,h2⟩:=hS.at_ t _ h;rw[h2]at h1;exact h1
theorem de.box(hS:de s ps){t:Nat}{cs:List SV}(h:s[t]? =aeg (.box cs)): ∃q,ps[t]? =aeg (.box q)/\RL s cs q:=by
 obtain⟨q,h1,q',rfl,h2⟩:=hS.at_ t _ h
 grind
theorem de.aje(hS:de s ps){t:Nat}{l:List _}(h:s[t]? =aeg (.set l)):ps[t]? =aeg (.map (l.map G4)):=by obtain⟨q,h1,h2⟩:=hS.at_ t _ h;rw[h2]at h1;exact h1
theorem de.acz(hS:de s ps){t:Nat}{p:PT}{l:List _}(h:s[t]? =aeg (.mI p l)):ps[t]? =aeg (.map (l.map (J1 p))):=by obtain⟨q,h1,h2⟩:=hS.at_ t _ h;rw[h2]at h1;exact h1
theorem OwnAt.inv{t e n:Nat}{r:List PT}{l:List _}(h:OwnAt s t e n)(hs:s[t]? =aeg (.arr r l)):e=aef r/\n=(aef l):=by
 rcases h with⟨q,m,h1,rfl,rfl⟩|h1
 ·grind
 grind
theorem Eb.inv{t e:Nat}{r:List PT}{l:List _}(h:Eb s t e)(hs:s[t]? =aeg (.arr r l)):e=(aef r):=by
 rcases h with⟨q,m,h1,rfl⟩|h1|⟨cs,h1,_⟩
 ·grind
 ·grind
 grind
theorem Y8.inv{t:Nat}{q r:List PT}{i:Int}{a:RT q}{l:List _}(h:Y8 s t q i a)(hs:s[t]? =aeg (.arr r l)): ∃e:q=r,aF l i=aeg (e▸a):=by
 rcases h with⟨m,h1,h2⟩|h1
 ·grind
 grind
theorem afV.inv{t:Nat}{r:List PT}{i:Int}{l:List _}(h:afV s t i)(hs:s[t]? =aeg (.arr r l)):(aF l i).isSome=aej:=by
 rcases h with⟨q,m,h1,h2⟩|h1
 ·grind
 grind
theorem xl{α:Type}{l:List α}{n:Nat}{i:Int}{a:α}(h:aF (l.take n) i=aeg a): ∃m:Nat,i=abD m/\m<n/\l[m]? =aeg a:=by
 grind[q8,abQ,NE]
theorem uj{n:Nat}{i:Int}{j:Nat}{f:Nat->js R'}:H6 n i j f ρ w=aeg y-> ∃m,i=abD m/\j<=m/\m<j+n/\f m ρ w=aeg y:=by
 induction n generalizing j with
 |zero=>intro h;cases h
 |succ n ih=>
  intro h;rcases gR h with⟨h1,h2⟩|⟨_,h2⟩
  ·grind
  grind
theorem Zg(hE:eS s e pe)(hS:de s ps){aO:Nat}{x i:ib}(h:qK e s z (.Px aO x i) k ρ w=aeg y):iX s ps (bO pe ps z (.Px aO x i)) k ρ w y:=by
 simp[qK]at h;generalize hi:cH e i=vi at h;cases vi with
 |int ki n=>
  have hi:=qL hE hi;have hx:=eO hE x;unfold aeA at h;generalize cH e x=v at h hx;cases v with
  |sl r l=>
   obtain⟨he,h⟩:=dm h;obtain⟨a,ha,hk⟩:=dz h;obtain⟨m,rfl,hm⟩:=q8 ha;refine iX.val hS hk ?_ ⟨_,rfl,MI r a⟩;have hr:(l.map (RT.pv r))[m]? =aeg (RT.pv r a):=by simp[hm]
   simp[bO,hi,lD,show x.ev pe=_ from hx,hr,he,]
  |own t ex=>
   simp[cT]at h;generalize dd:s[t]? =b at h;cases b with
   |none=>cases h
   |some b=>
    cases b with
    |arr r l=>
     obtain⟨he,h⟩:=dm h;obtain⟨a,ha,hk⟩:=dz h;obtain⟨m,rfl,hm⟩:=q8 ha;obtain⟨e',n',hx,dO⟩:=hx;obtain⟨rfl,rfl⟩:=dO.inv dd;have iL:=(IR.1 hm).1;have h1:abV m (aef l)=aej:=by simpa using iL
     refine iX.val hS hk ?_ ⟨rfl,.inl ⟨l,dd,ha⟩⟩;simp[bO,hi,lD,hx,h1,he,]
    |_=>cases h
  |pre t len cap ex=>
   simp[cT]at h;generalize dd:s[t]? =b at h;cases b with
   |none=>cases h
   |some b=>
    cases b with
    |arr r l=>
     obtain⟨he,h⟩:=dm h;obtain⟨a,ha,hk⟩:=dz h;obtain⟨m,rfl,iL,hm⟩:=xl ha;obtain⟨e',hx,dO⟩:=hx;have:=dO.inv dd;subst this;have h1:abV m len=aej:=by simpa using iL
     refine iX.val hS hk ?_ ⟨rfl,.inl ⟨l,dd,hm⟩⟩;simp[bO,hi,lD,hx,h1,he,]
    |_=>cases h
  |part t off len cap ex=>
   simp only[cT]at h;generalize dd:s[t]? =b at h;cases b with
   |none=>cases h
   |some b=>
    cases b with
    |arr r l=>
     obtain⟨he,h⟩:=dm h;obtain⟨a,ha,hk⟩:=dz h;obtain⟨m,rfl,iL,hm⟩:=xl ha;rw[List.getElem?_drop]at hm;obtain⟨e',hx,dO⟩:=hx;have:=dO.inv dd;subst this;have h1:abV m len=aej:=by simpa using iL
     refine iX.val hS (p:= .ptr t (aef r) (off+m) 0) hk ?_ ⟨rfl,.inl ⟨l,dd,hm⟩⟩;simp[bO,hi,lD,hx,h1,he,]
    |_=>cases h
  |bs t e' n' ex=>
   obtain⟨he,h⟩:=dm h;obtain⟨m,rfl,_,h2,hk⟩:=uj h;have h1:abV m n'=aej:=by simp;omega
   refine iX.val hS (p:= .ptr t e' m 0) hk ?_ rfl;simp[bO,hi,lD,show x.ev pe= .own t e' 0 n' n' ex from hx,h1,he]
  |_=>cases h
 |_=>cases h
theorem Ww(hE:eS s e pe)(hS:de s ps){n aO:Nat}{p i:ib}(h:qK e s z (.HM n aO p i) k ρ w=aeg y):iX s ps (bO pe ps z (.HM n aO p i)) k ρ w y:=by
 simp[qK]at h;generalize hi:cH e i=vi at h;cases vi with
 |int ki j=>
  have hi:=qL hE hi;have hx:=eO hE p;generalize cH e p=v at h hx;cases v with
  |bp t m o=>
   obtain⟨j',rfl,_,h2,h⟩:=uj h;have h1:abV j' n=aej:=by simp;omega
   exact iX.val hS h (by simp[bO,hi,lD,h1,show p.ev pe=_ from hx]) rfl
  |bZ c o=>
   obtain⟨j',rfl,_,h2,h⟩:=uj h;have h1:abV j' n=aej:=by simp;omega
   obtain⟨q,hq,hr⟩:=hx;exact iX.val hS h (by simp[bO,hi,lD,h1,hq]) ⟨q,rfl,hr⟩
  |pb t m o=>
   obtain⟨j',rfl,_,h2,h⟩:=uj h;have h1:abV j' n=aej:=by simp;omega
   obtain⟨e',he,hr⟩:=hx;exact iX.val hS h (by simp[bO,hi,lD,h1,he]) ⟨e',rfl,hr⟩
  |pa t r i a o=>
   obtain⟨j',rfl,_,h2,h⟩:=uj h;have h1:abV j' n=aej:=by simp;omega
   exact iX.val hS h (by simp[bO,hi,lD,h1,hx.1]) ⟨rfl,hx.2⟩
  |_=>cases h
 |_=>cases h
theorem acA(hE:eS s e pe)(hS:de s ps){n aO:Nat}{agg:Option Nat}{x i:ib}(h:qK e s z (.idx n aO agg x i) k ρ w=aeg y):iX s ps (bO pe ps z (.idx n aO agg x i)) k ρ w y:=by
 simp[qK]at h;generalize hi:cH e i=vi at h;cases vi with
 |int ki j=>
  have hi:=qL hE hi;generalize hx:cH e x=v at h;cases v with
  |agg cs=>
   obtain⟨j',rfl,_,h2,h⟩:=uj h;have h1:abV j' n=aej:=by simp;omega
   obtain⟨v,hv,h⟩:=bV h;obtain⟨q,hq,hr⟩:=Wt hE hx;obtain⟨p,hp,hpr⟩:=uW hr hv;exact iX.val hS h (by simp only[bO,hi,lD,h1,hq,hp];rfl) hpr
  |_=>cases h
 |_=>cases h
theorem Zh(hE:eS s e pe)(hS:de s ps){x i:ib}(h:qK e s z (.Py x i) k ρ w=aeg y):iX s ps (bO pe ps z (.Py x i)) k ρ w y:=by
 simp[qK]at h;generalize hi:cH e i=vi at h;cases vi with
 |int ki j=>
  have hi:=qL hE hi;generalize hx:cH e x=v at h;cases v with
  |str t=>
   obtain⟨b,hb,h⟩:=dz h;have hx:=Wt hE hx;cases j with
   |negSucc _=>cases hb
   |ofNat m=>simp[wE,]at hb;obtain⟨c,hc,rfl⟩:=hb;exact iX.val hS h (by simp[bO,hi,lD,show x.ev pe=_ from hx,hc]) rfl
  |_=>cases h
 |_=>cases h
theorem Zi(hE:eS s e pe)(hS:de s ps){agg:Option Nat}{p:ib}(h:qK e s z (.load agg p) k ρ w=aeg y):iX s ps (bO pe ps z (.load agg p)) k ρ w y:=by
 simp[qK]at h;have hx:=eO hE p;unfold aeB at h;generalize cH e p=v at h hx;cases v with
 |bp t n off=>
  simp[cT]at h;generalize dd:s[t]? =b at h;cases b with
  |none=>cases h
  |some b=>
   cases b with
   |box cs=>obtain⟨v,hv,h⟩:=bV h;obtain⟨q,h1,h2⟩:=hS.box dd;obtain⟨u,h3,h4⟩:=uW h2 hv;refine iX.rd hS h ?_ h4;show p6 ps agg _=_;rw[hx];simp only[p6,h1,h3];rfl
   |_=>cases h
 |bq t n r' off=>
  simp[cT]at h;generalize dd:s[t]? =b at h;cases b with
  |none=>cases h
  |some b=>
   cases b with
   |box cs=>
    obtain⟨v,hv,h⟩:=bV h;obtain⟨q,h1,h2⟩:=hS.box dd;cases hr:aaP r' 0 with
    |true=>rw[hr,v6]at hv;obtain⟨u,h3,h4⟩:=uW h2 hv;refine iX.rd hS h ?_ h4;show p6 ps agg _=_;rw[hx];simp only[p6,h1,h3,hr,if_true];rfl
    |false=>rw[hr,ww]at hv;obtain⟨u,h3,h4⟩:=uW h2 hv;refine iX.rd hS h ?_ h4;show p6 ps agg _=_;rw[hx];simp only[p6,h1,h3,hr,abM,if_false];rfl
   |_=>cases h
 |pa t r i a off=>
  simp[cT]at h;generalize dd:s[t]? =b at h;cases b with
  |none=>cases h
  |some b=>
   cases b with
   |arr q l=>
    obtain⟨v,hv,hk⟩:=bV h;obtain⟨hx,dO⟩:=hx;obtain⟨rfl,hg⟩:=dO.inv dd;obtain⟨u,h3,h4⟩:=uW (MI r a) hv;obtain⟨m,rfl,hm⟩:=q8 hg;refine iX.rd hS hk ?_ h4;show p6 ps agg _=_;rw[hx];have Fv:(l.map (RT.pv r))[m]? =aeg (RT.pv r a):=by simp[hm]
    have e1:(abD m).toNat=m:=rfl;simp only[p6,hS.arr dd,e1,Fv,h3];rfl
   |_=>cases h
 |pb t i off=>
  simp[cT]at h;generalize dd:s[t]? =b at h;cases b with
  |none=>cases h
  |some b=>
   cases b with
   |arr r l=>
    obtain⟨a,ha,h⟩:=dz h;obtain⟨v,hv,hk⟩:=bV h;obtain⟨e',hx,dO⟩:=hx;obtain⟨u,h3,h4⟩:=uW (MI r a) hv;obtain⟨m,rfl,hm⟩:=q8 ha;refine iX.rd hS hk ?_ h4;show p6 ps agg _=_;rw[hx];have Fv:(l.map (RT.pv r))[m]? =aeg (RT.pv r a):=by simp[hm]
    have e1:(abD m).toNat=m:=rfl;simp only[p6,hS.arr dd,e1,Fv,h3];rfl
   |_=>cases h
 |bZ cs off=>obtain⟨v,hv,h⟩:=bV h;obtain⟨q,hq,hr⟩:=hx;obtain⟨u,h3,h4⟩:=uW hr hv;refine iX.val hS h ?_ h4;show p6 ps agg _=_;rw[hq];simp only[p6,h3];rfl
 |_=>cases h
theorem Oq(hS:de s ps){t:Nat}{r:List PT}{l:List _}(dd:s[t]? =aeg (.arr r l)){i:Int}{b:RT r}{rd:List Nat}:
 Good s ps {v:= .undef,wr:=[(t,.arr r (cQ l i b))],rd} {v:= .undef,wr:=[(t,.arr (aef r) ((l.map (RT.pv r)).set i.toNat (RT.pv r b)))],rd}:=
 Good.Y' hS dd (.inl ⟨_,rfl,by simp⟩) (by show _=_;simp[cQ,])
theorem Wx(hE:eS s e pe)(hS:de s ps){sz:Nat}{p x:ib}(h:qK e s z (.store sz p x) k ρ w=aeg y):iX s ps (bO pe ps z (.store sz p x)) k ρ w y:=by
 simp[qK]at h;have hx:=eO hE p;have hv:=eO hE x;unfold YW at h;generalize cH e p=v at h hx;generalize cH e x=u at h hv;cases v with
 |bp t n off=>
  simp[cT]at h;generalize dd:s[t]? =b at h;cases b with
  |none=>cases h
  |some b=>
   cases b with
   |box cs=>
    obtain⟨w',hw,h⟩:=bV h;obtain⟨hc,h⟩:=dm h;obtain⟨q,h1,h2⟩:=hv.stored hw;obtain⟨b,h3,h4⟩:=hS.box dd;have zd:=Fr.dg (ts:=[t]) (Fr.set (b:= .box (wO off w' cs)) dd (.inl ⟨_,rfl⟩));refine⟨_,_,?_,Good.Y' hS dd (.inl ⟨_,rfl⟩) ⟨_,rfl,RL.fr zd (Dy h2 h4)⟩,h⟩
    show xw ps z sz (x.ev pe) (p.ev pe)=_
    rw[hx];simp[xw,h3,h1,h2.pN,h4.pN];simp_all
   |_=>cases h
 |pa t r i a off=>
  simp[cT]at h;generalize dd:s[t]? =b at h;cases b with
  |none=>cases h
  |some b=>
   cases b with
   |arr q l=>
    obtain⟨hc,h⟩:=dm h;obtain⟨a',LU,hk⟩:=bV h;obtain⟨hx,dO⟩:=hx;obtain⟨rfl,hg⟩:=dO.inv dd;obtain⟨m,rfl,hm⟩:=q8 hg;refine⟨_,_,?_,Oq hS dd,hk⟩;show xw ps z sz (x.ev pe) (p.ev pe)=_;rw[hx];have Fv:(l.map (RT.pv r))[m]? =aeg (RT.pv r a):=by simp[hm]
    have e1:(abD m).toNat=m:=rfl;simp only[If,]at hc;obtain⟨⟨c1,c2⟩,c3⟩:=hc;have hj:u≠ .jX:=by
     intro e;subst e;have:=RT.uU LU;have hq:=congrArg (λl=>l[off]?) this;have qf:=aaQ c2;have vW:sz=1:=by have:=EQ c1;simpa[SV.cells]using this.symm
     have iL:off<(aef r):=by omega
     have LK:off<(RT.sv r a).length:=by rw[RT.On];exact iL
     simp[wO,SV.cells]at hq;simp[ad5 (ae1 LK),]at hq;have: ∀(r:List PT) (b:RT r) (n:Nat),(RT.sv r b)[n]?≠aeg .jX:=by
      intro r
      induction r with
      |nil=>intro b n h;simp[RT.sv]at h
      |cons p rest ih=>
       intro b n;cases rest with
       |nil=>cases n<;>cases p<;>simp[RT.sv,PT.sv]
       |cons p2 ajf=>cases n with
        |zero=>cases p<;>simp[RT.sv,PT.sv]
        |succ n=>simpa[RT.sv]using ih b.2 n
     grind
    have SY:=hv.cells hj;have BX:=RT.uU LU;have h5:RL s (RT.sv r a') (vY off (x.ev pe).cells (RT.pv r a)):=by
     grind[Dy,MI]
    have h6:=Dx r a' h5;have SZ:(x.ev pe).dj=aeg (x.ev pe).cells:=by
     unfold PV.dj;rw[AC ?_];have wN:=RT.plain r a';rw[<-h6]at wN;unfold vY at wN
     grind
    simp only[xw,hS.arr dd,e1,Fv,SZ,SY.pN,RT.CA]
    grind
   |_=>cases h
 |pb t i off=>
  simp[cT]at h;generalize dd:s[t]? =b at h;cases b with
  |none=>cases h
  |some b=>
   cases b with
   |arr r l=>
    obtain⟨hc,h⟩:=dm h;obtain⟨e',hx,dO⟩:=hx;have AN:=dO.inv dd;rw[Option.isSome_iff_exists]at AN;obtain⟨a0,hg⟩:=AN;obtain⟨m,rfl,hm⟩:=q8 hg;have Fv:(l.map (RT.pv r))[m]? =aeg (RT.pv r a0):=by simp[hm]
    have e1:(abD m).toNat=m:=rfl;simp only[If,]at hc;obtain⟨⟨c1,c2⟩,c3⟩:=hc;cases vW:aaP sz (aef r)with
    |true=>
     rw[vW]at h;obtain⟨a',LU,hk⟩:=bV h;obtain⟨hp,hl⟩:=hv.ofRow LU;have V2:=EQ vW;have GL:off=0:=by have:=aaQ c2;omega
     subst GL;refine⟨_,_,?_,Oq hS dd,hk⟩;show xw ps z sz (x.ev pe) (p.ev pe)=_;rw[hx];simp only[xw,hS.arr dd,e1,Fv,hp,RT.CA];rw[AC (by grind)];have:vY 0 (RT.pv r a') (RT.pv r a0)=RT.pv r a':=by
      unfold vY
      grind[RT.CA,List.drop_of_length_le]
     rw[this]
    |false=>
     rw[vW]at h;obtain⟨a,ha,h⟩:=dz h;obtain⟨a',LU,hk⟩:=bV h;rw[hg]at ha;injection ha with ha;subst ha;refine⟨_,_,?_,Oq hS dd,hk⟩;show xw ps z sz (x.ev pe) (p.ev pe)=_;rw[hx];have hj:u≠ .jX:=by
      intro e;subst e;have:=RT.uU LU;have hq:=congrArg (λl=>l[off]?) this;have qf:=aaQ c2;have vW:sz=1:=by have:=EQ c1;simpa[SV.cells]using this.symm
      have iL:off<(aef r):=by omega
      have LK:off<(RT.sv r a0).length:=by rw[RT.On];exact iL
      simp[wO,SV.cells]at hq;simp[abQ,ad5 (ae1 LK),Nat.sub_self,]at hq;have: ∀(r:List PT) (b:RT r) (n:Nat),(RT.sv r b)[n]?≠aeg .jX:=by
       intro r
       induction r with
       |nil=>intro b n h;simp[RT.sv]at h
       |cons p rest ih=>
        intro b n;cases rest with
        |nil=>cases n<;>cases p<;>simp[RT.sv,PT.sv]
        |cons p2 ajf=>cases n with
         |zero=>cases p<;>simp[RT.sv,PT.sv]
         |succ n=>simpa[RT.sv]using ih b.2 n
      grind
     have SY:=hv.cells hj;have BX:=RT.uU LU;have h5:RL s (RT.sv r a') (vY off (x.ev pe).cells (RT.pv r a0)):=by
      grind[Dy,MI]
     have h6:=Dx r a' h5;have SZ:(x.ev pe).dj=aeg (x.ev pe).cells:=by
      unfold PV.dj;rw[AC ?_];have wN:=RT.plain r a';rw[<-h6]at wN;unfold vY at wN
      grind
     simp only[xw,hS.arr dd,e1,Fv,SZ,SY.pN,RT.CA]
     grind
   |_=>cases h
 |_=>cases h
end
end Go.Vm
/- Operation by operation, third part: slices, new blocks, append, sets; all of them together. -/
namespace Go.Vm
section
variable {R' ρ : Type} {w : R' -> ρ} {y : ρ} {s : List SB} {ps : di} {e : SE} {pe : Env} {z : List Nat} {k : iR -> js R'}
def J2(pe:Env)(o:Option ib):Option (Option Nat):=match o with|none=>aeg aei|some a=>(lD (a.ev pe)).map aeg
theorem zZ(hE:eS s e pe){o:Option ib}{d a:Int}{n:Nat}(h:G0 e d o=aeg a)(hd:d=abD n)(h0:0<=a): ∃b,J2 pe o=aeg b/\b.getD n=a.toNat:=by
 cases o with
 |none=>injection h with h;subst h hd;exact⟨aei,rfl,rfl⟩
 |some x=>
  simp[G0]at h;split at h
  ·rename_i ka m hx
   injection h with h;subst h;obtain⟨b,rfl⟩:=UV h0;refine⟨aeg b,?_,rfl⟩;simp[J2,qL hE hx];rfl
  cases h
theorem EJ{aO:Nat}{x:ib}{lo hi mx:Option ib}{l h m:Option Nat}{v:PV}(he:zD aO (x.ev pe)=aej)(h1:J2 pe lo=aeg l)(h2:J2 pe hi=aeg h)(h3:J2 pe mx=aeg m)(hv:vZ (x.ev pe) l h m=aeg v):
 bO pe ps z (.VL aO x lo hi mx)=aeg {v:=v}:=by
 have e:bO pe ps z (.VL aO x lo hi mx)=(match J2 pe lo,J2 pe hi,J2 pe mx with|some l,aeg h,aeg m=>(vZ (x.ev pe) l h m).map λv=>({v}:rQ)|_,_,_=>aei):=by simp[bO,he,];rfl
 grind
theorem J3{α:Type}{l r:List α}{lo hi:Int}(h:jE l lo hi=aeg r): ∃a b:Nat,lo=abD a/\hi=abD b/\a<=b/\b<=aef l/\r=(l.drop a).take (b-a):=by
 unfold jE at h;split at h
 ·rename_i hc
  obtain⟨a,rfl⟩:=UV hc.1;obtain⟨b,rfl⟩:=UV (abX hc.1 hc.2.1);injection h with h;exact⟨a,b,rfl,rfl,by omega,by omega,by rw[<-h];simp⟩
 cases h
theorem Ot(hE:eS s e pe)(hS:de s ps){aO t off len cap:Nat}{ex:Bool}{x:ib}{lo hi mx:Option ib}(hx:x.ev pe= .own t aO off len cap ex)(dO:Eb s t aO)(h:Wo e t off len cap ex lo hi mx k ρ w=aeg y):
 iX s ps (bO pe ps z (.VL aO x lo hi mx)) k ρ w y:=by
 obtain⟨a,ha,h⟩:=bV h;obtain⟨b,hb,h⟩:=bV h;have he:zD aO (x.ev pe)=aej:=by rw[hx];simp[zD]
 cases mx with
 |none=>
  obtain⟨hc,h⟩:=kF h;simp[]at hc;obtain⟨⟨c1,c2⟩,c3⟩:=hc;obtain⟨l,h1,h2⟩:=zZ hE ha rfl c1;obtain⟨u,h3,h4⟩:=zZ hE hb rfl (abX c1 c2);refine iX.val hS h (EJ he h1 h3 rfl ?_) ⟨aO,rfl,dO⟩;rw[hx];have c4:(WF a.toNat b.toNat&&WF b.toNat cap)=aej:=by have c3':=c3;simp;omega
  simp[vZ,h2,h4,c4,]
 |some mo=>
  dsimp only at h;generalize hm:cH e mo=vm at h;cases vm with
  |int km c=>
   obtain⟨hc,h⟩:=kF h;simp[]at hc;obtain⟨⟨⟨c1,c2⟩,c3⟩,c4⟩:=hc;obtain⟨l,h1,h2⟩:=zZ hE ha rfl c1;obtain⟨u,h3,h4⟩:=zZ hE hb rfl (abX c1 c2);have LR:=abX (abX c1 c2) c3;obtain⟨c,rfl⟩:=UV LR;refine iX.val hS h (EJ he h1 h3 (by simp only[J2,qL hE hm];rfl) ?_) ⟨aO,rfl,dO⟩;rw[hx];have c5:(WF a.toNat b.toNat&&WF b.toNat c&&WF c cap)=aej:=by have c4':=c4;simp;omega
   simp only[vZ,h2,h4,c5,];rfl
  |_=>cases h
theorem acB(hE:eS s e pe)(hS:de s ps){aO:Nat}{x:ib}{lo hi mx:Option ib}(h:qK e s z (.VL aO x lo hi mx) k ρ w=aeg y):iX s ps (bO pe ps z (.VL aO x lo hi mx)) k ρ w y:=by
 simp[qK]at h;have hx:=eO hE x;unfold ai' at h;generalize cH e x=v at h hx;cases v with
 |sl r l=>
  cases mx with
  |some _=>cases h
  |none=>
   obtain⟨he,h⟩:=dm h;have he:=EQ he;obtain⟨a,ha,h⟩:=bV h;obtain⟨b,hb,h⟩:=bV h;obtain⟨m,hm,hk⟩:=dz h;obtain⟨n1,n2,rfl,rfl,c1,c2,rfl⟩:=J3 hm;obtain⟨u1,h1,h2⟩:=zZ hE ha rfl (by simp);obtain⟨u2,h3,h4⟩:=zZ hE hb rfl (by simp);have hx':=hx;subst he;refine iX.val hS hk (EJ (by rw[hx'];simp[zD]) h1 h3 rfl ?_) rfl;rw[hx'];have h2':u1.getD 0=n1:=by rw[h2];rfl
   have h4':u2.getD (l.map (RT.pv r)).length=n2:=by grind
   have c3:(WF n1 n2&&WF n2 (l.map (RT.pv r)).length)=aej:=by simp[c1,c2]
   simp only[vZ,h2',h4',c3,if_true,Bool.false_and,abz,acG]
 |own t ex=>
  simp[cT]at h;generalize dd:s[t]? =b at h;cases b with
  |none=>cases h
  |some b=>
   cases b with
   |arr r l=>
    obtain⟨he,hk⟩:=dm h;have he:=EQ he;obtain⟨e',n',hx,dO⟩:=hx;obtain⟨rfl,rfl⟩:=dO.inv dd;subst he;have Js:Eb s t (aef r):= .inl ⟨r,l,dd,rfl⟩;have gen:Wo e t 0 (aef l) (aef l) ex lo hi mx k ρ w=aeg y->iX s ps (bO pe ps z (.VL (aef r) x lo hi mx)) k ρ w y:=λh=>Ot hE hS hx Js h
    have he:zD (aef r) (x.ev pe)=aej:=by rw[hx];simp[zD]
    cases mx with
    |some m=>simp_all
    |none=>
     cases lo with
     |some _=>grind
     |none=>
      cases hi with
      |none=>refine iX.val hS hk (EJ he rfl rfl rfl ?_) ⟨aef r,aef l,rfl,dO⟩;rw[hx];simp[vZ]
      |some ho=>
       dsimp only at hk;generalize hh:cH e ho=vh at hk;cases vh with
       |int kh b=>
        obtain⟨m,hm,hk⟩:=dz hk;obtain⟨n1,n2,h0,rfl,c1,c2,rfl⟩:=J3 hm;refine iX.val hS hk (EJ he rfl (by simp only[J2,qL hE hh];rfl) rfl ?_) ⟨aef r,rfl,Js⟩;rw[hx];have c3:(WF 0 n2&&WF n2 (aef l))=aej:=by simp[c2]
        simp only[vZ,ad3,ae6,c3,];rfl
       |_=>cases hk
   |_=>cases h
 |pre t len cap ex=>
  simp[cT]at h;generalize dd:s[t]? =b at h;cases b with
  |none=>cases h
  |some b=>
   cases b with
   |arr r l=>
    obtain⟨he,hk⟩:=dm h;have he:=EQ he;obtain⟨e',hx,dO⟩:=hx;have:=dO.inv dd;subst this;subst he;have gen:Wo e t 0 len cap ex lo hi mx k ρ w=aeg y->iX s ps (bO pe ps z (.VL (aef r) x lo hi mx)) k ρ w y:=λh=>Ot hE hS hx dO h
    have he:zD (aef r) (x.ev pe)=aej:=by rw[hx];simp[zD]
    cases mx with
    |some m=>simp_all
    |none=>
     cases lo with
     |some _=>grind
     |none=>
      cases hi with
      |none=>
       obtain⟨hlc,hk⟩:=kF hk;refine iX.val hS hk (EJ he rfl rfl rfl ?_) ⟨aef r,rfl,dO⟩;rw[hx];have c3:(WF 0 len&&WF len cap)=aej:=by simp[hlc]
       simp only[vZ,ad3,c3,];simp
      |some ho=>
       dsimp only at hk;generalize hh:cH e ho=vh at hk;cases vh with
       |int kh b=>
        obtain⟨hc,hk⟩:=kF hk;simp[]at hc;obtain⟨c1,c2⟩:=hc;obtain⟨b,rfl⟩:=UV c1;refine iX.val hS hk (EJ he rfl (by simp only[J2,qL hE hh];rfl) rfl ?_) ⟨aef r,rfl,dO⟩;rw[hx];have c3:(WF 0 b&&WF b cap)=aej:=by simp_all
        simp only[vZ,ad3,ae6,c3,];rfl
       |_=>cases hk
   |_=>cases h
 |part t off len cap ex=>
  simp[cT]at h;generalize dd:s[t]? =b at h;cases b with
  |none=>cases h
  |some b=>
   cases b with
   |arr r l=>
    obtain⟨he,hk⟩:=dm h;have he:=EQ he;obtain⟨e',hx,dO⟩:=hx;have:=dO.inv dd
    grind[Ot]
   |_=>cases h
 |_=>cases h
theorem z6{b:SB}:(s++[b])[aef s]? =aeg b:=by simp
theorem bK: ∀{v:PV} {p:PT},bC v=aeg p->p.pv p.zero=v
 | .int k n,p,h=>by
  simp[bC]at h;split at h
  ·injection h with h;subst h;rfl
  cases h
 | .bool b,p,h=>by
  simp[bC]at h;split at h
  ·injection h with h;subst h;rfl
  cases h
 | .undef,_,h| .nD,_,h| .str _,_,h| .agg _,_,h| .cV _,_,h| .sl _ _ _,_,h| .own _ _ _ _ _ _,_,h| .ptr _ _ _ _,_,h| .bZ _ _,_,h| .mp _,_,h| .fE _ _ _,_,h| .fv,_,h=>by cases h
theorem FM : ∀ {l : List PV} {r : List PT}, JR l = aeg r -> RT.pv r (RT.zero r) = l
  | [], r, h => by injection h with h; subst h; rfl
  | v :: vs, r, h => by
    simp[JR]at h
    split at h
    ·rename_i p q h1 h2
     injection h with h; subst h
     have e1 := bK h1
     have e2 := FM h2
     cases q with
     | nil =>
       have : vs = [] := by
         cases vs with
         | nil => rfl
         | cons a b => simp only[RT.pv]at e2; cases e2
       subst this
       show [p.pv p.zero] = _
       rw[e1]
     | cons p2 q2 =>
       show p.pv p.zero :: RT.pv _ (RT.zero (p2 :: q2)) = _
       rw[e1, e2]
    cases h
theorem acC(hE:eS s e pe)(hS:de s ps){aO:Nat}{zero:Row}{l c:ib}(h:qK e s z (.mks aO zero l c) k ρ w=aeg y):iX s ps (bO pe ps z (.mks aO zero l c)) k ρ w y:=by
 simp[qK]at h;generalize hl:cH e l=vl at h;cases vl with
 |int kl n=>
  generalize hc:cH e c=vc at h;cases vc with
  |int kc m=>
   obtain⟨hnm,h1⟩:=kF h;obtain⟨r,hr,h2⟩:=bV h1;obtain⟨he,h3⟩:=dm h2;obtain⟨x,hx,hk⟩:=dz h3;have hnm:n=m:=by simpa using hnm
   subst hnm;have he:=EQ he;subst he;unfold oE at hx;split at hx
   ·rename_i Pp
    injection hx with hx;subst hx;obtain⟨a,rfl⟩:=UV Pp.1;have h1:(WF a a&&WF a iq)=aej:=by simp[iq];omega
    refine⟨_,_,?_,Good.new hS (q:= .arr (aef r) (abr a zero)) (p:= .own (aef s) (aef r) 0 a a aej) ?_ ?_,hk⟩
    ·have e1:lD (.int kl (a:Int))=aeg a:=rfl
     have e2:lD (.int kc (a:Int))=aeg a:=rfl;simp only[bO,qL hE hl,qL hE hc,e1,e2];rw[AC h1,hS.len]
    ·show _=_
     simp[FM hr]
    exact⟨aef r,a,rfl,.inl ⟨r,_,z6,rfl,by simp⟩⟩
   cases hx
  |_=>cases h
 |_=>cases h
def CB{α:Type}:List α->List (Nat×α)->List α
 |l,[]=>l
 |l,(i,a)::r=>CB (l.set i a) r
theorem J4{α:Type}: ∀(q:List _) (l:List α) (i:Nat),(CB l q)[i]? =(l[i]?).map λz=>rowAt i z q
 | [],l,i=>by simp[CB,rowAt]
 |(j,a)::q,l,i=>by
  simp[CB,rowAt];rw[J4 q _ i,aai]
  by_cases hji:j=i
  ·subst hji
   cases hl:l[j]? with
   |none=>
    grind
   |some z=>have:=(IR.1 hl).1;simp[this]
  grind[EQ]
theorem Qs{α:Type}(f:Nat->α): ∀(n i j:Nat),(SG f i n)[j]? =if j<n then aeg (f (i+j))else aei
 |0,i,j=>by simp[SG]
 |n+1,i,0=>by simp[SG]
 |n+1,i,j+1=>by simp only[SG,List.getElem?_cons_succ];rw[Qs f n _ j,show i+1+j=i+(j+1) by omega];simp
theorem J5{α:Type}(z:α)(n:Nat)(q:List _):CB (abr n z) q=SG (λi=>rowAt i z q) 0 n:=by
 apply acm
 grind[J4,Qs]
theorem J6(hE:eS s e pe){r:List PT}{n:Nat}: ∀{parts:List _} {q:List _} {l:List _},UQ r e n parts=aeg q->aef l=n->
 vw (parts.map λp=>(p.1,p.2.ev pe)) (l.map (RT.pv r)) (aef r)=aeg ((CB l q).map (RT.pv r))
 | [],q,l,h,hl=>by injection h with h;subst h;rfl
 |p::parts,q,l,h,hl=>by
  simp[UQ]at h;split at h
  ·rename_i a q' h1 h2
   cases hb:abV p.1 n with
   |false=>grind
   |true=>rw[hb]at h;injection h with h;subst h;have hp:=((eO hE p.2).ofRow h1).1;simp[vw,hp,RT.CA,hl,hb,];rw[<-List.map_set];exact J6 hE h2 (by simp[hl])
  cases h
theorem Wy(hE:eS s e pe)(hS:de s ps){aO n:Nat}{zero:Row}{parts:List _}(h:qK e s z (.Fh aO n zero parts) k ρ w=aeg y):iX s ps (bO pe ps z (.Fh aO n zero parts)) k ρ w y:=by
 obtain⟨r,hr,h1⟩:=bV h;obtain⟨he,h2⟩:=dm h1;obtain⟨q,hq,hk⟩:=bV h2;have he:=EQ he;subst he;have hf:=J6 hE (l:=abr n (RT.zero r)) hq (by simp);rw[J5]at hf;have hz:(abr n (RT.zero r)).map (RT.pv r)=abr n zero:=by simp[FM hr]
 rw[hz]at hf;refine⟨_,_,?_,Good.new hS (b:= .arr r _) (p:= .own (aef s) (aef r) 0 n n aej) rfl ?_,hk⟩
 ·simp only[bO,hf,hS.len]
  rfl
 refine⟨aef r,n,rfl,.inl ⟨r,_,z6,rfl,?_⟩⟩
 rw[<-J5];have: ∀(q:List _) (l:List (RT r)),(CB l q).length=(aef l):=by
  intro q
  induction q with
  |nil=>intro l;rfl
  |cons p q ih=>intro l;simp[CB,ih]
 rw[this];simp
theorem U5: ∀{cs:List SV} {q:List PV} {l:List Int},RL s cs q->UR cs=aeg l->q=l.map (.int .i64)
 | [],q,l,h,hi=>by injection hi with hi;subst hi;exact h
 |x::xs,q,l,h,hi=>by
  obtain⟨p,q,rfl,h1,h2⟩:=h.cons_inv;simp[UR]at hi;split at hi
  ·rename_i n l' hx
   injection hi with hi;subst hi;rw[h1,U5 h2 hx];rfl
  cases hi
theorem Zj{v:SV}{p:PV}{n:Option Nat}{l:List Int}(h:R s v p)(hk:ace n v=aeg l):p=yj l/\mN n (yj l)=aej/\(yj l).dj=aeg (yj l).cells/\(yj l).cells=l.map (.int .i64)/\(n=aei->aef l=1)/\(∀m,n=aeg m->aef l=m/\m≠1):=by
 cases n with
 |none=>
  cases v with
  |int kk a=>
   cases kk with
   |i64=>injection hk with hk;subst hk;exact⟨h,rfl,rfl,rfl,λ_=>rfl,λm hm=>by cases hm⟩
   |_=>cases hk
  |_=>cases hk
 |some m=>
  cases v with
  |agg cs=>
   simp[ace]at hk;cases hc:(aaP (aef cs) m&&!Nat.beq m 1)with
   |false=>grind
   |true=>
    rw[hc]at hk;simp[]at hc;obtain⟨c1,c2⟩:=hc;obtain⟨q,rfl,hq⟩:=h;have X1:=U5 hq hk;have eX:(aef l)=m:=by have:=hq.pN;grind
    have Wz:m≠1:=by intro e;subst e;cases c2
    have Yc:yj l= .agg (l.map (.int .i64)):=by
     unfold yj
     grind
    refine⟨by rw[Yc,X1],by rw[Yc];simp[mN,eX],?_,by rw[Yc];rfl,(λh=>by cases h),λm' hm=>by grind⟩;rw[Yc];unfold PV.dj;simp[PV.cells,PV.plain]
  |_=>cases hk
theorem AW: ∀(a b:List Int),aef a=aef b->dZ (a.map (.int .i64)) (b.map (.int .i64))=aeg (a==b)
 | [],[],_=>rfl
 |x::a,y::b,h=>by
  have ih:=AW a b (by simpa using h);simp[dZ,xu,Qq,]
  grind
 | [],_::_,h=>by simp at h
 |_::_,[],h=>by simp at h
theorem G5{n : Option Nat}{a : List Int}(ha : (yj a).cells = a.map (.int .i64))(hn : (n = aei -> (aef a) = 1) /\ (∀ m, n = aeg m -> (aef a) = m /\ m ≠ 1)) : ∀ (l : List _) (i : Nat), (∀ r, ij n (yj a) (l.map G4) i = aeg r -> (match r with | none => IE l a = aek | some j => i <= j /\ IE l a = aej /\ l[j - i]? = aeg a))
  | [], i, r, h => by
    simp[ij, ]at h
    subst h; rfl
  | b :: l, i, r, h => by
    simp only[abA, G4, ij]at h
    split at h
    ·rename_i hk
     have hb : (yj b).cells = b.map (.int .i64) /\ (aef a) = (aef b) := by
       cases n with
       | none =>
         have hl := hn.1 rfl
         unfold yj at hk ⊢
         split at hk
         ·exact⟨rfl, by simpa using hl⟩
         cases hk
       | some m =>
         obtain⟨hl, hm⟩ := hn.2 m rfl
         unfold yj at hk ⊢
         split at hk
         ·cases hk
         simp[mN, ]at hk
         exact⟨rfl, by omega⟩
     rw[ha, hb.1, AW a b hb.2]at h
     cases Mp : a == b with
     | true =>
       rw[Mp]at h
       injection h with h; subst h
       have : a = b := by simpa using Mp
       subst this
       exact⟨ado _, by simp[IE], by simp⟩
     | false =>
       rw[Mp]at h
       have := G5 ha hn l _ r h
       cases r with
       | none => simpa[IE, Mp]using this
       | some j =>
         obtain⟨h1, h2, h3⟩ := this
         refine⟨by omega, by simp[IE]at h2; simp[IE, h2], ?_⟩
         grind
    cases h
theorem FN{n:Option Nat}{a:List Int}(ha:(yj a).cells=a.map (.int .i64))(hn:(n=aei->aef a=1)/\(∀m,n=aeg m->aef a=m/\m≠1)){l:List _}(hl:l.all (λb=>mN n (yj b))=aej): ∀i,∃r,ij n (yj a) (l.map G4) i=aeg r:=by
 induction l with
 |nil=>intro i;exact⟨aei,rfl⟩
 |cons b l ih=>
  intro i;simp only[List.all_cons,If]at hl;obtain⟨r,hr⟩:=ih hl.2 (i+1);simp[G4,ij,];have hb:(yj b).cells=b.map (.int .i64)/\aef a=(aef b):=by
   have hk:=hl.1;cases n with
   |none=>
    have qH:=hn.1 rfl;unfold yj at hk ⊢;split at hk
    ·exact⟨rfl,by simpa using qH⟩
    cases hk
   |some m=>
    obtain⟨qH,hm⟩:=hn.2 m rfl;unfold yj at hk ⊢;split at hk
    ·cases hk
    simp[mN,]at hk
    exact⟨rfl,by omega⟩
  grind[AW]
theorem Ic{n:Option Nat}{a:List Int}(hn:(n=aei->aef a=1)/\(∀m,n=aeg m->aef a=m/\m≠1)){l:List _}(hl: ∀b∈l,aef b=aef a):l.all (λb=>mN n (yj b))=aej:=by
 rw[abw];intro b hb;have eX:=hl b hb;cases n with
 |none=>
  have h1:=hn.1 rfl;rw[h1]at eX
  match b,eX with
  | [x],_=>rfl
 |some m=>
  obtain⟨h1,h2⟩:=hn.2 m rfl;unfold yj;split
  ·grind
  simp[mN];omega
theorem FO{a:List Int}{l:List _}(h:sg a l=aej): ∀b∈l,aef b=(aef a):=by intro b hb;exact EQ (abw.1 h b hb)
theorem PT.ajg{s:List SB}{p:PT}{v:SV}{q:PV}{a:p.T}(h:R s v q)(ho:p.of v=aeg a):q=p.pv a:=by
 cases p with
 |i k=>
  cases v with
  |int l n=>
   simp[PT.of]at ho;cases hk:hO l k with
   |false=>grind
   |true=>rw[hk]at ho;obtain rfl:=gO.1 hk;injection ho with ho;subst ho;exact h
  |_=>cases ho
 |b=>
  cases v with
  |bool x=>injection ho with ho;subst ho;exact h
  |_=>cases ho
theorem J7{β:Type}(g:Int×β->PV×PV)(hg: ∀x,(g x).1= .int .i64 x.1)(k:Int): ∀(l:List _) (i:Nat),
 (∃j x,ij aei (.int .i64 k) (l.map g) i=aeg (aeg (i+j))/\l[j]? =aeg x/\(∀z,j8 z l k=x.2)/\ ∀a,mz l k a=l.set j (k,a))\/
 (ij aei (.int .i64 k) (l.map g) i=aeg aei/\(∀z,j8 z l k=z)/\ ∀a,mz l k a=l++[(k,a)])
 | [],i=> .inr ⟨rfl,λ_=>rfl,λ_=>rfl⟩
 |x::l,i=>by
  have hk:mN aei (g x).1=aej:=by rw[hg];rfl
  have he:dZ (PV.int .i64 k).cells (g x).1.cells=aeg (k==x.1):=by
   rw[hg];show dZ [.int .i64 k] [.int .i64 x.1]=_;simp[dZ,xu,hO,]
   grind
  have hf:ij aei (.int .i64 k) ((x::l).map g) i=(match aeg (k==x.1)with
   |some aej=>aeg (aeg i)
   |some aek=>ij aei (.int .i64 k) (l.map g) (i+1)
   |none=>aei):=by
   rw[abA];show(if mN aei _ then _ else aei)=_
   grind
  cases hb:k==x.1 with
  |true=>rw[hb]at hf;exact .inl ⟨0,x,hf,rfl,λz=>by simp[j8,hb,],λa=>by simp[mz,hb,]⟩
  |false=>
   rw[hb]at hf;rcases J7 g hg k l (i+1)with⟨j,y,h1,h2,h3,h4⟩|⟨h1,h2,h3⟩
   ·refine .inl ⟨j+1,y,?_,by simpa using h2,λz=>?_,λa=>?_⟩
    ·grind
    ·simp[j8,hb,h3]
    simp[mz,hb,h4,]
   exact .inr ⟨hf.trans h1,λz=>by simp[j8,hb,h2],λa=>by simp[mz,hb,h3,]⟩
theorem J8(p:PT)(k:Int)(l:List _):
 (∃(j:Nat) (x:RT [.i .i64,p]),ij aei (.int .i64 k) (l.map (J1 p)) 0=aeg (aeg j)/\l[j]? =aeg x/\(∀z,p.get z l k=x.2)/\ ∀a,p.put l k a=l.set j (k,a))\/
 (ij aei (.int .i64 k) (l.map (J1 p)) 0=aeg aei/\(∀z,p.get z l k=z)/\ ∀a,p.put l k a=l++[(k,a)]):=by
 cases p with
 |i d=>
  rcases J7 (J1 (.i d)) (λ_=>rfl) k l 0 with⟨j,x,h1,h2,h3,h4⟩|h
  ·exact .inl ⟨j,x,by grind,h2,h3,h4⟩
  exact .inr h
 |b=>
  rcases J7 (J1 .b) (λ_=>rfl) k l 0 with⟨j,x,h1,h2,h3,h4⟩|h
  ·exact .inl ⟨j,x,by grind,h2,h3,h4⟩
  exact .inr h
theorem PT.anU{s:List SB}(p:PT)(a:p.T):R s (p.sv a) (p.pv a):=by cases p<;>rfl
theorem PT.Qt(p:PT)(a:p.T):(p.pv a).dj=aeg [p.pv a]:=by cases p<;>rfl
theorem S0(hE:eS s e pe)(hS:de s ps){n:Option Nat}{zero:PV}{ok:Bool}{m q:ib}(h:qK e s z (.lookup n zero ok m q) k ρ w=aeg y):iX s ps (bO pe ps z (.lookup n zero ok m q)) k ρ w y:=by
 simp[qK]at h;have hx:=eO hE m;generalize cH e m=v at h hx;cases v with
 |mp t=>
  simp[cT]at h;generalize dd:s[t]? =b at h;cases b with
  |none=>cases h
  |some b=>
   cases b with
   |set l=>
    cases zero with
    |bool b=>
     cases b with
     |true=>cases h
     |false=>
      cases ok with
      |true=>cases h
      |false=>
       obtain⟨a,ha,h1⟩:=bV h;obtain⟨b,hb,hk⟩:=dz h1;obtain⟨k1,k2,k3,k4,k5⟩:=Zj (eO hE q) ha;unfold Qi at hb;cases Ay:sg a l with
       |false=>grind
       |true=>
        rw[Ay]at hb;injection hb with hb;subst hb;obtain⟨r,hr⟩:=FN k4 k5 (Ic k5 (FO Ay)) 0;have hf:=G5 k4 k5 l 0 r hr;refine iX.rd hS hk ?_ rfl;show yl ps n _ aek _ _=_;rw[hx,k1];simp only[yl,hS.aje dd,k2,hr];cases r with
        |none=>grind
        |some j=>
         obtain⟨_,h2,h3⟩:=hf;have:(l.map G4)[j]? =aeg (G4 a):=by grind
         simp[this,h2,G4]
    |_=>cases h
   |mI p l=>
    cases n with
    |some _=>cases h
    |none=>
     cases ok with
     |true=>cases h
     |false=>
      have hq:=eO hE q;generalize cH e q=u at h hq;cases u with
      |int d a=>
       cases d with
       |i64=>
        obtain⟨zv,hz,hk⟩:=bV h;have ajh:=PT.ajg (SW s zero) hz;refine iX.rd hS hk ?_ (PT.anU p _);show yl ps aei zero aek _ _=_;rw[hx,hq];rcases J8 p a l with⟨j,x,h1,h2,h3,_⟩|⟨h1,h2,_⟩
        ·have h5:(l.map (J1 p))[j]? =aeg (J1 p x):=by simp[h2]
         simp[yl,hS.acz dd,mN,h1,h5,h3,J1,]
        simp[yl,hS.acz dd,mN,h1,h2,ajh,]
       |_=>cases h
      |_=>cases h
   |_=>cases h
 |_=>cases h
theorem Zk(hE:eS s e pe)(hS:de s ps){n:Option Nat}{m q x:ib}(h:qK e s z (.Nx n m q x) k ρ w=aeg y):iX s ps (bO pe ps z (.Nx n m q x)) k ρ w y:=by
 simp[qK]at h;have hx:=eO hE m;generalize cH e m=v at h hx;cases v with
 |mp t=>
  simp[cT]at h;generalize dd:s[t]? =b at h;cases b with
  |none=>cases h
  |some b=>
   cases b with
   |set l=>
    obtain⟨hz,h0⟩:=xk h;have hv:=eO hE x;generalize cH e x=u at h0 hv;cases u with
    |bool b=>
     cases b with
     |false=>cases h0
     |true=>
      obtain⟨a,ha,h1⟩:=bV h0;obtain⟨b,hb,hk⟩:=dz h1;obtain⟨k1,k2,k3,k4,k5⟩:=Zj (eO hE q) ha;unfold Qj at hb;cases Ay:sg a l with
      |false=>grind
      |true=>
       rw[Ay]at hb;injection hb with hb;subst hb;obtain⟨r,hr⟩:=FN k4 k5 (Ic k5 (FO Ay)) 0;have hf:=G5 k4 k5 l 0 r hr;refine⟨_,_,?_,Good.Y' hS (b:= .set _) dd trivial rfl,hk⟩;show HN ps z n _ _ _=_;rw[hx,k1,hv];have p2:(PV.bool aej).dj=aeg [.bool aej]:=rfl;simp[HN,hS.aje dd,k2,hz,k3,p2,hr];cases r with
       |none=>simp[YV,hf,G4]
       |some j=>
        obtain⟨_,h2,h3⟩:=hf;have h5:l[j]? =aeg a:=by simpa using h3
        have:(l.map G4).set j (yj a,.bool aej)=l.map G4:=by
         apply acm;intro i;rw[aai];split
         ·rename_i p8
          subst p8;have iL:=(IR.1 h5).1;have h6:=(IR.1 h5).2;simp[iL,h6,G4]
         rfl
        simp[YV,h2,this]
    |_=>cases h0
   |mI p l=>
    obtain⟨hz,h0⟩:=xk h;cases n with
    |some _=>cases h0
    |none=>
     have hq:=eO hE q;generalize cH e q=u at h0 hq;cases u with
     |int d a=>
      cases d with
      |i64=>
       obtain⟨xv,hxv,hk⟩:=bV h0;have Ou:=PT.ajg (eO hE x) hxv;refine⟨_,_,?_,Good.Y' hS (b:= .mI p _) dd trivial rfl,hk⟩;show HN ps z aei _ _ _=_;rw[hx,hq,Ou];have p1:(PV.int .i64 a).dj=aeg [.int .i64 a]:=rfl;rcases J8 p a l with⟨j,x,h1,_,_,h3⟩|⟨h1,_,h3⟩
       ·simp[HN,hS.acz dd,mN,hz,p1,PT.Qt,h1,h3,J1]
       simp[HN,hS.acz dd,mN,hz,p1,PT.Qt,h1,h3,J1]
      |_=>cases h0
     |_=>cases h0
   |_=>cases h
 |_=>cases h
theorem Eb.fr'{s s':List SB}{bad:List Nat}{t e:Nat}(h:Eb s t e)(hf:Fr bad s s'):Eb s' t e:=by
 rcases h with⟨r,l,h1,h2⟩|h1|⟨cs,h1,h2⟩
 ·rcases hf t _ h1 with⟨l',k1,_,_⟩|k1
  ·exact .inl ⟨r,l',k1,h2⟩
  exact .inr (.inl k1)
 ·exact .inr (.inl (hf t _ h1))
 rcases hf t _ h1 with⟨c2,k1⟩|k1
 ·exact .inr (.inr ⟨c2,k1,h2⟩)
 exact .inr (.inl k1)
theorem EK{α:Type}{l r:List α}(h:cN l=aeg r):r=l/\aef l<=1048576:=by
 unfold cN at h
 grind
theorem CC{α:Type}{l m r:List α}(h:ba l m=aeg r):r=l++m/\aef l+aef m<=1048576:=by
 unfold ba at h
 grind
theorem yC: ∀(m l:List Row) (n:Nat),n+aef m<=aef l->oB n m l=gQ l n m
 | [],l,n,h=>by simp[oB,gQ]
 |a::m,l,n,h=>by
  simp[]at h;rw[oB,yC m _ _ (by simp;omega)];unfold gQ;rw[List.take_set,List.drop_set];have hn:n<(aef l):=by omega
  have:(l.take (n+1)).set n a=l.take n++[a]:=by rw[List.take_succ_eq_append_getElem hn,List.set_append_right _ _ (by simp;omega)];simp[ad5 (ae1 hn)]
  grind
theorem J9{α β:Type}(f:α->β)(l m:List α)(n:Nat):(gQ l n m).map f=gQ (l.map f) n (m.map f):=by simp[gQ,]
theorem FP{α:Type}(l m:List α)(n:Nat)(h:n+aef m<=aef l):(gQ l n m).length=(aef l):=by simp[gQ];omega
theorem S5(hE:eS s e pe)(hS:de s ps){aO:Nat}{x yy:ib}(h:qK e s z (.append aO x yy) k ρ w=aeg y):iX s ps (bO pe ps z (.append aO x yy)) k ρ w y:=by
 simp[qK]at h;have hx:=eO hE x;have hyv:=eO hE yy;unfold US at h;generalize cH e yy=vy at h hyv;cases hc:D' s vy with
 |none=>rw[hc]at h;cases h
 |some cc=>
  obtain⟨q,m⟩:=cc;rw[hc]at h;obtain⟨he,h⟩:=dm h;have he:=EQ he;obtain⟨HR,LM⟩:=U3 hS hyv hc;rw[he]at HR;have AX:bO pe ps z (.append aO x yy)=lF ps z aO (x.ev pe) (yy.ev pe):=rfl;generalize cH e x=v at h hx;cases v with
  |nil e' c=>
   obtain⟨IW,h⟩:=dm h;obtain⟨m',Fv,hk⟩:=dz h;obtain⟨rfl,qf⟩:=EK Fv;refine⟨_,_,?_,Good.new hS (q:= .arr aO (m'.map (RT.pv q))) (v:= .own (aef s) aek) (by rw[<-he];rfl) ⟨aO,aef m',rfl,.inl ⟨q,m',z6,he.symm,rfl⟩⟩,hk⟩;rw[AX];have anV:=IW;subst anV;rw[hx];unfold lF;rw[HR];cases m' with
   |nil=>simp[hS.len,LM]
   |cons a m'=>
    have h2:WF ((a::m').length) iq=aej:=by simp[iq]at qf ⊢;omega
    simp[abx]at h2;simp[hS.len,LM,h2]
  |own t ex=>
   simp[cT]at h;generalize dd:s[t]? =b at h;cases b with
   |none=>cases h
   |some b=>
    cases b with
    |arr r l=>
     dsimp only at h;cases Zl:xF q r m with
     |none=>rw[Zl]at h;cases h
     |some m2=>
      rw[Zl]at h;obtain⟨rfl,hmp,R5⟩:=FI Zl;obtain⟨e',n',hx,dO⟩:=hx;obtain⟨rfl,rfl⟩:=dO.inv dd;rw[<-hmp]at HR;have N7:=hS.arr dd;cases ex with
      |true=>
       rcases gR h with⟨hl,h⟩|⟨hl,h⟩
       ·obtain⟨m',Fv,hk⟩:=dz h
        obtain⟨rfl,qf⟩:=EK Fv;have hl:l=[]:=by simpa using hl
        subst hl;refine⟨_,_,?_,Good.new hS (b:= .arr q m') (v:= .own (aef s) aek) rfl ⟨aef q,aef m',rfl,.inl ⟨q,m',z6,rfl,rfl⟩⟩,hk⟩;rw[AX,hx];unfold lF;rw[HR];subst he;cases m' with
        |nil=>simp[hS.len,LM]
        |cons a m'=>
         have h2:WF ((a::m').length) iq=aej:=by simp[iq]at qf ⊢;omega
         simp[abx]at h2;simp[hS.len,LM,h2,N7]
       have hb0:aaP (aef l) 0=aek:=by
        grind[EQ]
       rcases gR h with⟨hm,h⟩|⟨hm,h⟩
       ·have hm:m2=[]:=by simpa using hm
        subst hm;refine iX.rd hS h ?_ ⟨_,_,rfl,dO⟩;rw[AX,hx];unfold lF
        grind
       obtain⟨l',qH,hk⟩:=dz h
       obtain⟨rfl,qf⟩:=CC qH;refine⟨_,_,?_,Good.new hS (b:= .arr q (l++m2)) (v:= .own (aef s) aek) rfl ⟨aef q,(l++m2).length,rfl,.inl ⟨q,l++m2,z6,rfl,rfl⟩⟩,hk⟩;rw[AX,hx];unfold lF;rw[HR];subst he;cases m2 with
       |nil=>cases hm
       |cons a m2=>
        have h2:WF (aef l+(a::m2).length) iq=aej:=by simp[iq]at qf ⊢;omega
        simp only[abx]at h2;simp[hS.len,LM,h2,N7,aby]
      |false=>
       rcases gR h with⟨hm,h⟩|⟨hm,h⟩
       ·have hm:m2=[]:=by simpa using hm
        subst hm;refine iX.rd hS h ?_ ⟨_,_,rfl,dO⟩;rw[AX,hx];unfold lF
        grind
       obtain⟨hz,h⟩:=xk h
       obtain⟨l',qH,hk⟩:=dz h;obtain⟨rfl,qf⟩:=CC qH;have eX:(IG [t] (s.set t .dead)).length=(aef s):=by rw[AU];simp
       refine⟨_,_,?_,Good.put hS (ql:=[.arr (aef q) ((l++m2).map (RT.pv q))]) (v:= .own (aef s) aek) dd (.inr rfl) rfl rfl
        (λj b hj=>by
         cases j with
         |zero=>simp at hj;subst hj;exact⟨_,rfl,rfl⟩
         |succ j=>simp at hj)
        ⟨aef q,(l++m2).length,rfl,.inl ⟨q,l++m2,by simp_all,rfl,rfl⟩⟩,hk⟩
       rw[AX,hx];unfold lF;rw[HR];subst he;cases m2 with
       |nil=>cases hm
       |cons a m2=>
        have h2:WF (aef l+(a::m2).length) iq=aej:=by simp[iq]at qf ⊢;omega
        simp only[abx]at h2;simp[hS.len,LM,h2,N7,hz,aby]
    |_=>cases h
  |pre t len cap ex=>
   simp[cT]at h;generalize dd:s[t]? =b at h;cases b with
   |none=>cases h
   |some b=>
    cases b with
    |arr r l=>
     dsimp only at h;cases Zl:xF q r m with
     |none=>rw[Zl]at h;cases h
     |some m2=>
      rw[Zl]at h;obtain⟨rfl,hmp,R5⟩:=FI Zl;obtain⟨e',hx,dO⟩:=hx;have:=dO.inv dd;subst this;rw[<-hmp]at HR;have N7:=hS.arr dd;obtain⟨hex,h⟩:=xk h;subst hex;rcases gR h with⟨hm,h⟩|⟨hm,h⟩
      ·have hm:m2=[]:=by simpa using hm
       subst hm;refine iX.rd hS h ?_ ⟨_,rfl,dO⟩;rw[AX,hx];unfold lF;simp_all
      rcases gR h with⟨c1,h⟩|⟨c1,h⟩
      ·obtain⟨Pp,hk⟩:=kF h
       simp only[If,]at Pp;obtain⟨c2,c3⟩:=Pp;have c2':=aaQ c2;refine⟨_,_,?_,Good.put hS (ql:=[]) (v:= .pre t (len+aef m2) cap aek) dd (.inl ⟨_,rfl,FP _ _ _ c2'⟩) rfl rfl
        (λj b hj=>by simp at hj) ⟨aef q,rfl,?_⟩,hk⟩
       ·rw[AX,hx]
        unfold lF;rw[HR];subst he;have oD:oB (0+len) (m2.map (RT.pv q)) (l.map (RT.pv q))=(gQ l len m2).map (RT.pv q):=by simp_all[yC,J9,Nat.zero_add]
        grind
       have:=Eb.fr' dO ((Fr.dg (ts:=[t]) (Fr.set dd (.inl ⟨_,rfl,FP _ _ _ c2'⟩))).trans (Fr.app [t] _ []))
       exact this
      obtain⟨hz0,h⟩:=xk h
      have hz:has z t=aek:=by
       grind
      obtain⟨l',qH,h⟩:=dz h;obtain⟨Fg,hk⟩:=kF h;obtain⟨anW,qf⟩:=CC qH;subst anW;have avw:=aaQ Fg;have V':(l.take len).length=len:=by grind
      have eX:(IG [t] (s.set t .dead)).length=(aef s):=by rw[AU];simp
      have hal:(l.take len++m2).length=len+(aef m2):=by grind
      refine⟨_,_,?_,Good.put hS (ql:=[.arr (aef q) ((l.take len++m2).map (RT.pv q))]) (v:= .own (aef s) aek) dd (.inr rfl) rfl rfl
       (λj b hj=>by
        cases j with
        |zero=>simp at hj;subst hj;exact⟨_,rfl,rfl⟩
        |succ j=>simp at hj)
       ⟨aef q,(l.take len++m2).length,rfl,.inl ⟨q,l.take len++m2,by simp_all,rfl,rfl⟩⟩,hk⟩
      rw[AX,hx];unfold lF;rw[HR];subst he;cases m2 with
      |nil=>cases hm
      |cons a m2=>
       have h2:WF (len+(aef m2+1)) iq=aej:=by simp[iq]at qf ⊢;omega
       simp[abx]at c1 hal;simp[abA,abx,abF,N7,ad4,Bool.not_true,abM,if_false,c1,h2,hz,hS.len,LM,hal,abB,aea,abz]
    |_=>cases h
  |_=>cases h
end
end Go.Vm
/- Operation by operation: all of them. -/
namespace Go.Vm
section
variable {R' ρ : Type} {w : R' -> ρ} {y : ρ} {s : List SB} {ps : di} {e : SE} {pe : Env} {z : List Nat} {k : iR -> js R'}
theorem WA(hE:eS s e pe)(hS:de s ps){aO:Nat}{zero:Row}{x:ib}(h:qK e s z (.clear aO zero x) k ρ w=aeg y):iX s ps (bO pe ps z (.clear aO zero x)) k ρ w y:=by
 simp[qK]at h;have hx:=eO hE x;unfold YX at h;generalize cH e x=v at h hx;cases v with
 |part t off len cap ex=>
  simp[cT]at h;generalize dd:s[t]? =b at h;cases b with
  |none=>cases h
  |some b=>
   cases b with
   |arr r l=>
    cases hq:JR zero with
    |none=>rw[hq]at h;cases h
    |some q=>
     rw[hq]at h;obtain⟨hc,h1⟩:=dm h;simp only[If]at hc;obtain⟨hqr,he⟩:=hc;have hqr:=Ct hqr;have he:=EQ he;obtain⟨e',hx,dO⟩:=hx;have:=dO.inv dd;subst this;subst hqr;subst he;rcases gR h1 with⟨hl,hk⟩|⟨hl,hk⟩
     ·have hl:=EQ hl
      subst hl;exact iX.val hS hk (by simp[bO,hx]) rfl
     obtain⟨Pp,hk⟩:=kF hk
     simp only[If,]at Pp;obtain⟨c1,c2⟩:=Pp;have c1':=aaQ c1;have eX:=FP l (abr len (RT.zero q)) off (by simpa using c1');refine⟨_,_,?_,Good.Y' hS dd (.inl ⟨_,rfl,eX⟩) rfl,hk⟩;cases len with
     |zero=>cases hl
     |succ len=>
      have oD:oB off (abr (len+1) zero) (l.map (RT.pv q))=(gQ l off (abr (len+1) (RT.zero q))).map (RT.pv q):=by rw[J9,yC _ _ _ (by simpa using c1')];simp[FM hq]
      simp[bO,hx,hS.arr dd,c2,oD]
   |_=>cases h
 |_=>cases h
theorem EL(hS:de s ps){t off len cap:Nat}{ex:Bool}{r:List PT}{l:List _}{x yy:ib}{vy:SV}(dd:s[t]? =aeg (.arr r l))(hx:x.ev pe= .own t (aef r) off len cap ex)(hyv:R s vy (yy.ev pe))
 (h:JS s z t r l off len vy k ρ w=aeg y):iX s ps (bO pe ps z (.copy (aef r) x yy)) k ρ w y:=by
 unfold JS at h;cases hc:D' s vy with
 |none=>rw[hc]at h;cases h
 |some cc=>
  obtain⟨q,m⟩:=cc;rw[hc]at h;dsimp only at h;cases Zl:xF q r m with
  |none=>rw[Zl]at h;cases h
  |some m2=>
   rw[Zl]at h;dsimp only at h;obtain⟨hqr,hmp,R5⟩:=FI Zl;subst hqr;obtain⟨HR,LM⟩:=U3 hS hyv hc;rw[<-hmp]at HR;have J':(m2.map (RT.pv q)).take len=(m2.take len).map (RT.pv q):=by simp
   generalize m2.take len=mm at h J';rcases gR h with⟨hm,hk⟩|⟨hm,hk⟩
   ·have hm:mm=[]:=by simpa using hm
    subst hm;refine iX.rd hS hk ?_ rfl;simp[bO,HR,hx,J',LM]
   obtain⟨Pp,hk⟩:=kF hk
   simp only[If,]at Pp;obtain⟨c1,c2⟩:=Pp;have c1':=aaQ c1;have eX:=FP l mm off c1';refine⟨_,_,?_,Good.put hS (ql:=[]) (v:= .int .i64 _) dd (.inl ⟨_,rfl,eX⟩) rfl rfl (λj b hj=>by simp at hj) rfl,hk⟩;have oD:oB off (mm.map (RT.pv q)) (l.map (RT.pv q))=(gQ l off mm).map (RT.pv q):=by
    grind[J9,yC]
   cases mm with
   |nil=>cases hm
   |cons a mm=>simp[]at oD J';simp[bO,HR,hx,J',hS.arr dd,c2,oD,LM,]
theorem Zm(hE:eS s e pe)(hS:de s ps){aO:Nat}{x yy:ib}(h:qK e s z (.copy aO x yy) k ρ w=aeg y):iX s ps (bO pe ps z (.copy aO x yy)) k ρ w y:=by
 simp[qK]at h;have hx:=eO hE x;have hyv:=eO hE yy;unfold aeC at h;generalize cH e x=v at h hx;cases v with
 |own t ex=>
  simp[cT]at h;generalize dd:s[t]? =b at h;cases b with
  |none=>cases h
  |some b=>
   cases b with
   |arr r l=>
    obtain⟨he,hk⟩:=dm h;have he:=EQ he;obtain⟨e',n',hx,dO⟩:=hx;obtain⟨rfl,rfl⟩:=dO.inv dd
    grind[EL]
   |_=>cases h
 |pre t len cap ex=>
  simp[cT]at h;generalize dd:s[t]? =b at h;cases b with
  |none=>cases h
  |some b=>
   cases b with
   |arr r l=>
    obtain⟨he,hk⟩:=dm h;have he:=EQ he;obtain⟨e',hx,dO⟩:=hx;have:=dO.inv dd
    grind[EL]
   |_=>cases h
 |part t off len cap ex=>
  simp[cT]at h;generalize dd:s[t]? =b at h;cases b with
  |none=>cases h
  |some b=>
   cases b with
   |arr r l=>
    obtain⟨he,hk⟩:=dm h;have he:=EQ he;obtain⟨e',hx,dO⟩:=hx;have:=dO.inv dd
    grind[EL]
   |_=>cases h
 |_=>cases h
theorem WB(hE:eS s e pe)(hS:de s ps){x1 x2:ib}(h:qK e s z (.HL x1 x2) k ρ w=aeg y):iX s ps (bO pe ps z (.HL x1 x2)) k ρ w y:=by
 simp[qK]at h;have hx:=eO hE x1;have hy:=eO hE x2;generalize cH e x1=v at h hx;generalize cH e x2=u at h hy;cases v with
 |sl r l=>
  cases u with
  |sl q m=>have hx:x1.ev pe= .sl (aef r) aek _:=hx;have hy:x2.ev pe= .sl (aef q) aek _:=hy;refine⟨_,_,?_,Good.new hS (b:= .box [.sl r l,.sl q m]) (v:= .part (aef s) 0 2 2 aej) ⟨_,rfl,_,_,rfl,rfl,_,_,rfl,rfl,rfl⟩ ⟨1,rfl,.inr (.inr ⟨_,z6,rfl⟩)⟩,h⟩;simp only[bO,hx,hy,hS.len];rfl
  |_=>cases h
 |_=>cases h
theorem FQ(hE:eS s e pe){aO:Nat}: ∀{xs:List ib} {cs:List SV},AS aO (xs.map (cH e))=aeg cs-> ∃q,tT aO (xs.map λx=>x.ev pe)=aeg q/\RL s cs q
 | [],cs,h=>by injection h with h;subst h;exact⟨[],rfl,RL.nil⟩
 |x::xs,cs,h=>by
  simp only[abA,AS]at h;split at h
  ·rename_i w hw
   obtain⟨q,h1,h2⟩:=(eO hE x).stored hw;cases hl:aaP (aef w) aO with
   |false=>rw[hl]at h;cases h
   |true=>rw[hl,v6,ab0]at h;obtain⟨c,h3,rfl⟩:=h;obtain⟨q',h4,h5⟩:=FQ hE h3;refine⟨q++q',?_,h2.append h5⟩;simp only[abA,tT,h1,h2.pN,hl,if_true,h4];rfl
  cases h
theorem S6(hE:eS s e pe)(hS:de s ps){aO:Nat}{xs:List ib}(h:qK e s z (.B8 aO xs) k ρ w=aeg y):iX s ps (bO pe ps z (.B8 aO xs)) k ρ w y:=by simp only[qK]at h;obtain⟨cs,hc,h⟩:=bV h;obtain⟨q,h1,h2⟩:=FQ hE hc;refine⟨_,_,?_,Good.new hS (b:= .box cs) (q:= .box q) (v:= .bs (aef s) aO (aef xs) aej) (p:= .own (aef s) aO 0 (aef xs) (aef xs) aej) (rd:=[]) ⟨q,rfl,h2.ext (Fr.app _ _ _)⟩ rfl,h⟩;simp only[bO,h1,hS.len];rfl
theorem acD(hE:eS s e pe)(hS:de s ps){op:oK}(h:qK e s z op k ρ w=aeg y):iX s ps (bO pe ps z op) k ρ w y:=by
 cases op with
 |XL x=>exact iX.val hS h rfl (eO hE x)
 |pick c a b=>exact Zf hE hS h
 |bin op a b=>exact acq hE hS h
 |Pu n a b=>exact Za hE hS h
 |eqc n g a b=>exact acr hE hS h
 |un op a=>exact afW hE hS h
 |conv a x=>exact Zc hE hS h
 |len x=>exact acs hE hS h
 |Sa n=>exact iX.val hS h rfl rfl
 |box x=>exact acu hE hS h
 |alloc c=>exact Wv hS h
 |build z p=>exact Wu hE hS h
 |Fh a b c d=>exact Wy hE hS h
 |HL a b=>exact WB hE hS h
 |B8 a b=>exact S6 hE hS h
 |load a p=>exact Zi hE hS h
 |store a p x=>exact Wx hE hS h
 |Pv x=>exact Zd hE hS h
 |Pw o x=>exact Ze hE hS h
 |dI a o x=>exact acv hE hS h
 |Px a x i=>exact Zg hE hS h
 |HM n a x i=>exact Ww hE hS h
 |idx n a g x i=>exact acA hE hS h
 |Py x i=>exact Zh hE hS h
 |VL a x l h' m=>exact acB hE hS h
 |mks a z l c=>exact acC hE hS h
 |mkf f a b=>exact acx hE hS h
 |mkm m=>exact acy hS h
 |lookup n z o m q=>exact S0 hE hS h
 |Nx n m q x=>exact Zk hE hS h
 |ext i x=>exact acw hE hS h
 |append a x b=>exact S5 hE hS h
 |copy a x b=>exact Zm hE hS h
 |clear a z x=>exact WA hE hS h
 |mm m x xs=>exact afX hE hS h
 |call m f a=>cases h
 |BJ x a=>cases h
 |bad=>cases h
mutual
theorem ajj{bx:Nat->Option (List SV)}{Zn:Nat->Option (List PV)}(hS:de s ps)(hb: ∀t l,bx t=aeg l-> ∃q,Zn t=aeg q/\tN l=aeg q): ∀{v u:SV} {p:PV},R s v p->MC s bx v=aeg u-> ∃q,GD ps Zn p=aeg q/\xH u=aeg q
 | .int k n,u,p,h,hx=>by injection hx with hx;subst hx;rw[show p=_ from h];exact⟨_,rfl,rfl⟩
 | .bool b,u,p,h,hx=>by injection hx with hx;subst hx;rw[show p=_ from h];exact⟨_,rfl,rfl⟩
 | .str x,u,p,h,hx=>by injection hx with hx;subst hx;rw[show p=_ from h];exact⟨_,rfl,rfl⟩
 | .fv,u,p,h,hx=>by injection hx with hx;subst hx;rw[show p=_ from h];exact⟨_,rfl,rfl⟩
 | .agg cs,u,p,h,hx=>by
  obtain⟨q,rfl,h⟩:=h;simp only[MC]at hx;split at hx
  ·rename_i l hl
   injection hx with hx;subst hx;obtain⟨q',h1,h2⟩:=zk hS hb h hl;exact⟨.agg q',by simp only[GD,h1];rfl,by simp only[xH,h2]⟩
  cases hx
 | .cV cs,u,p,h,hx=>by
  obtain⟨q,rfl,h⟩:=h;simp only[MC]at hx;split at hx
  ·rename_i l hl
   injection hx with hx;subst hx;obtain⟨q',h1,h2⟩:=zk hS hb h hl;exact⟨.cV q',by simp only[GD,h1];rfl,by simp only[xH,h2]⟩
  cases hx
 | .sl r l,u,p,h,hx=>by injection hx with hx;subst hx;rw[show p=_ from h];exact⟨_,rfl,rfl⟩
 | .nil e c,u,p,h,hx=>by injection hx with hx;subst hx;rw[show p=_ from h];exact⟨_,rfl,rfl⟩
 | .own t ex,u,p,h,hx=>by
  simp only[MC,cT]at hx;split at hx
  ·rename_i r l dd
   injection hx with hx;subst hx;obtain⟨e,n,rfl,dO⟩:=h;obtain⟨rfl,rfl⟩:=dO.inv dd;refine⟨.sl (aef r) aek (l.map (RT.pv r)),?_,rfl⟩;simp only[GD,hS.arr dd,abB];rw[aby (by simp)]
  cases hx
 | .pre t len cap ex,u,p,h,hx=>by
  simp only[MC,cT]at hx;split at hx
  ·rename_i r l dd
   injection hx with hx;subst hx;obtain⟨e,rfl,dO⟩:=h;have:=dO.inv dd;subst this;refine⟨.sl (aef r) aek ((l.take len).map (RT.pv r)),?_,rfl⟩;simp only[GD,hS.arr dd,abB,abz]
  cases hx
 | .part t off len cap ex,u,p,h,hx=>by
  simp only[MC,cT]at hx;split at hx
  ·rename_i r l dd
   injection hx with hx;subst hx;obtain⟨e,rfl,dO⟩:=h;have:=dO.inv dd;subst this;refine⟨.sl (aef r) aek (((l.drop off).take len).map (RT.pv r)),?_,rfl⟩;simp only[GD,hS.arr dd,abz,acG]
  cases hx
 | .pa t r i a off,u,p,h,hx=>by
  simp only[MC,cT]at hx;split at hx
  ·rename_i q l dd
   injection hx with hx;subst hx;obtain⟨rfl,dO⟩:=h;obtain⟨rfl,hg⟩:=dO.inv dd;obtain⟨m,rfl,hm⟩:=q8 hg;refine⟨.bZ (RT.pv r a) off,?_,by simp only[xH,RT.MF]⟩;have Fv:(l.map (RT.pv r))[m]? =aeg (RT.pv r a):=by simp[hm]
   have e1:(abD m).toNat=m:=rfl;simp only[GD,hS.arr dd,e1,Fv];rfl
  cases hx
 | .bp t n off,u,p,h,hx=>by
  simp only[MC,cT]at hx;split at hx
  ·rename_i cs dd
   split at hx
   ·rename_i l hl
    injection hx with hx;subst hx;rw[show p=_ from h];obtain⟨q,h1,h2⟩:=hb t l hl;obtain⟨c,h3,_⟩:=hS.box dd;refine⟨.bZ q off,?_,by simp only[xH,h2]⟩;simp only[GD,h3,ad4,if_true,h1];rfl
   cases hx
  cases hx
 | .bZ cs off,u,p,h,hx=>by
  obtain⟨q,rfl,h⟩:=h;simp only[MC]at hx;split at hx
  ·rename_i l hl
   injection hx with hx;subst hx;obtain⟨q',h1,h2⟩:=zk hS hb h hl;exact⟨.bZ q' off,by simp only[GD,h1];rfl,by simp only[xH,h2]⟩
  cases hx
 | .fE f a b,u,p,h,hx=>by
  obtain⟨pa,pb,rfl,h1,h2⟩:=h;simp only[MC]at hx;split at hx
  ·rename_i x y' h3 h4
   injection hx with hx;subst hx;obtain⟨qa,h5,h6⟩:=zk hS hb h1 h3;obtain⟨qb,h7,h8⟩:=zk hS hb h2 h4;exact⟨.fE f qa qb,by simp only[GD,h5,h7],by simp only[xH,h6,h8]⟩
  cases hx
 | .jX,_,_,_,hx| .undef,_,_,_,hx| .nD,_,_,_,hx| .pb _ _ _,_,_,_,hx| .mp _,_,_,_,hx=>by cases hx
theorem zk{bx:Nat->Option (List SV)}{Zn:Nat->Option (List PV)}(hS:de s ps)(hb: ∀t l,bx t=aeg l-> ∃q,Zn t=aeg q/\tN l=aeg q): ∀{v u:List SV} {p:List PV},RL s v p->xG s bx v=aeg u-> ∃q,GF ps Zn p=aeg q/\tN u=aeg q
 | [],u,p,h,hx=>by injection hx with hx;subst hx;rw[show p=_ from h];exact⟨_,rfl,rfl⟩
 |x::xs,u,p,h,hx=>by
  obtain⟨q,qs,rfl,h1,h2⟩:=h.cons_inv;simp only[xG]at hx;split at hx
  ·rename_i y' ys h3 h4
   injection hx with hx;subst hx;obtain⟨a,h5,h6⟩:=ajj hS hb h1 h3;obtain⟨as,h7,h8⟩:=zk hS hb h2 h4;exact⟨a::as,by simp only[GF,h5,h7],fV.2 ⟨a,as,rfl,h6,h8⟩⟩
  cases hx
end
theorem I0(hS:de s ps): ∀(n t:Nat) (l:List SV),nX s n t=aeg l-> ∃q,B9 ps n t=aeg q/\tN l=aeg q
 |0,t,l,h=>by cases h
 |n+1,t,l,h=>by
  simp[nX,cT]at h;split at h
  ·rename_i cs dd
   obtain⟨q,h1,h2⟩:=hS.box dd;obtain⟨u,h3,h4⟩:=zk hS (I0 hS n) h2 h;exact⟨u,by simp[B9,h1,h3],h4⟩
  cases h
mutual
theorem Zo{bx Zn:Nat->List Nat}(hb: ∀t,bx t=Zn t): ∀{v:SV} {p:PV},R s v p->v.sure=aej->SI bx v=lG Zn p
 | .jX,_,_,h=>by cases h
 | .undef,p,h,_| .nD,p,h,_| .fv,p,h,_| .int _ _,p,h,_| .bool _,p,h,_| .str _,p,h,_| .sl _ _,p,h,_| .nil _ _,p,h,_=>by rw[show p=_ from h];rfl
 | .agg cs,p,h,hs=>by obtain⟨q,rfl,h⟩:=h;exact EM hb h hs
 | .cV cs,p,h,hs=>by obtain⟨q,rfl,h⟩:=h;exact EM hb h hs
 | .own t ex,p,h,_=>by obtain⟨e,n,rfl,_⟩:=h;rfl
 | .pre t a b c,p,h,_=>by obtain⟨e,rfl,_⟩:=h;rfl
 | .part t o a b c,p,h,_=>by obtain⟨e,rfl,_⟩:=h;rfl
 | .pa t r i a o,p,h,_=>by obtain⟨rfl,_⟩:=h;simp only[SI,lG,hb]
 | .pb t i o,p,h,_=>by obtain⟨e,rfl,_⟩:=h;simp only[SI,lG,hb]
 | .bp t n o,p,h,_=>by rw[show p=_ from h];simp only[SI,lG,hb]
 | .bs t n o x,p,h,_=>by rw[show p=_ from h];rfl
 | .bq t n r o,p,h,_=>by rw[show p=_ from h];simp only[SI,lG,hb]
 | .bZ cs o,p,h,hs=>by obtain⟨q,rfl,h⟩:=h;exact EM hb h hs
 | .mp t,p,h,_=>by rw[show p=_ from h];rfl
 | .fE f a b,p,h,hs=>by obtain⟨pa,pb,rfl,h1,h2⟩:=h;simp only[SV.sure,If]at hs;simp only[SI,lG,EM hb h1 hs.1,EM hb h2 hs.2]
theorem EM{bx Zn:Nat->List Nat}(hb: ∀t,bx t=Zn t): ∀{v:List SV} {p:List PV},RL s v p->p9 v=aej->wP bx v=fb Zn p
 | [],p,h,_=>by rw[show p=_ from h];rfl
 |x::xs,p,h,hs=>by obtain⟨q,qs,rfl,h1,h2⟩:=h.cons_inv;simp only[p9,If]at hs;simp only[wP,fb,Zo hb h1 hs.1,EM hb h2 hs.2]
end
end
end Go.Vm
/- The head of a loop: what the typed machine keeps there, the logical machine keeps there. -/
namespace Go.Vm
section
variable {s : List SB} {ps : di}
mutual
theorem ajk{n:Nat}(hS:de s ps)(hB: ∀t l,nX s n t=aeg l->B2 s n t=gN ps n t): ∀{v u:SV} {p:PV},R s v p->MC s (nX s n) v=aeg u->SI (B2 s n) v=lG (gN ps n) p
 | .int _ _,_,p,h,_| .bool _,_,p,h,_| .str _,_,p,h,_| .fv,_,p,h,_| .sl _ _,_,p,h,_| .nil _ _,_,p,h,_=>by rw[h];rfl
 | .agg cs,u,p,h,hx=>by
  obtain⟨q,rfl,h⟩:=h;simp[MC]at hx;split at hx
  ·rename_i l hl;exact Ec hS hB h hl
  cases hx
 | .cV cs,u,p,h,hx=>by
  obtain⟨q,rfl,h⟩:=h;simp[MC]at hx;split at hx
  ·rename_i l hl;exact Ec hS hB h hl
  cases hx
 | .own t ex,_,p,h,_=>by obtain⟨e,n,rfl,_⟩:=h;rfl
 | .pre t a b c,_,p,h,_=>by obtain⟨e,rfl,_⟩:=h;rfl
 | .part t o a b c,_,p,h,_=>by obtain⟨e,rfl,_⟩:=h;rfl
 | .pa t r i a o,_,p,h,hx=>by
  obtain⟨rfl,dO⟩:=h;simp[MC,cT]at hx;split at hx
  ·rename_i q l dd
   simp[SI,lG];cases n with
   |zero=>rfl
   |succ n=>simp[B2,gN,cT,dd,hS.arr dd]
  cases hx
 | .bp t m o,u,p,h,hx=>by
  rw[h];simp[MC,]at hx;split at hx
  ·split at hx
   ·rename_i l hl
    simp[SI,lG,hB t l hl]
   cases hx
  cases hx
 | .bZ cs o,u,p,h,hx=>by
  obtain⟨q,rfl,h⟩:=h;simp[MC]at hx;split at hx
  ·rename_i l hl;exact Ec hS hB h hl
  cases hx
 | .fE f a b,u,p,h,hx=>by
  obtain⟨pa,pb,rfl,h1,h2⟩:=h;simp[MC]at hx;split at hx
  ·rename_i x y h3 h4
   simp[SI,lG,Ec hS hB h1 h3,Ec hS hB h2 h4]
  cases hx
 | .jX,_,_,_,hx| .undef,_,_,_,hx| .nD,_,_,_,hx| .pb _ _ _,_,_,_,hx| .mp _,_,_,_,hx=>by cases hx
theorem Ec{n:Nat}(hS:de s ps)(hB: ∀t l,nX s n t=aeg l->B2 s n t=gN ps n t): ∀{v u:List SV} {p:List PV},RL s v p->xG s (nX s n) v=aeg u->wP (B2 s n) v=fb (gN ps n) p
 | [],_,p,h,_=>by rw[h];rfl
 |x::xs,u,p,h,hx=>by
  obtain⟨q,qs,rfl,h1,h2⟩:=h.cons_inv;simp[xG]at hx;split at hx
  ·rename_i a b h3 h4
   simp[wP,fb,ajk hS hB h1 h3,Ec hS hB h2 h4]
  cases hx
end
theorem Zp{n:Nat}(hS:de s ps)(hB: ∀t l,nX s n t=aeg l->B2 s n t=gN ps n t): ∀{v:List SV} {p:List PV},RL s v p->SH s (nX s n) v=aej->wP (B2 s n) v=fb (gN ps n) p
 | [],p,h,_=>by rw[h];rfl
 |x::xs,p,h,hx=>by
  obtain⟨a,as,rfl,h1,h2⟩:=h.cons_inv;have other: ∀u,MC s (nX s n) x=aeg u->SH s (nX s n) xs=aej->wP (B2 s n) (x::xs)=fb (gN ps n) (a::as):=λu h3 h4=>by simp[wP,fb,ajk hS hB h1 h3,Zp hS hB h2 h4]
  unfold SH at hx;split at hx
  ·rename_i t
   rw[h1];simp[wP,fb,SI,lG,Zp hS hB h2 hx]
  grind
theorem Ka(hS:de s ps): ∀(n t:Nat) (l:List SV),nX s n t=aeg l->B2 s n t=gN ps n t
 |0,t,l,h=>rfl
 |n+1,t,l,h=>by
  simp[nX,cT]at h;split at h
  ·rename_i cs dd
   obtain⟨q,h1,h2⟩:=hS.box dd;simp[B2,gN,cT,dd,h1];exact Ec hS (Ka hS n) h2 h
  cases h
theorem Ov{b:SB}{q:ox}(h:RB s b q)(hs:Dt b=aej):Oh b=wH q:=by
 cases b with
 |box cs=>obtain⟨c,rfl,h⟩:=h;exact EM (λ_=>rfl) h hs
 |arr r l=>rw[h];rfl
 |set l=>rw[h];rfl
 |mI p l=>rw[h];rfl
 |dead=>rw[h];rfl
theorem Kb(hS:de s ps): ∀(n:Nat) (ts seen m:List Nat),JT s n ts seen=aeg m->reach ps n ts seen=aeg m
 |n,[],seen,m,h=>by cases n<;>(assumption)
 |0,_::_,_,_,h=>by cases h
 |n+1,t::ts,seen,m,h=>by
  simp[JT,cT]at h;simp[reach];cases hh:has seen t with
  |true=>rw[hh]at h;simp[];exact Kb hS n ts seen m h
  |false=>
   rw[hh]at h;split at h
   ·rename_i b dd
    obtain⟨q,h1,h2⟩:=hS.at_ t b dd;cases hb:Dt b with
    |false=>grind
    |true=>rw[hb]at h;simp[]at h;rw[h1,Ov h2 hb]at*;exact Kb hS n _ _ m h
   cases h
theorem Kc: ∀{t u:Nat} {m:List Nat},idxOf t m=aeg u->m[u]? =aeg t
 |t,u,[],h=>by cases h
 |t,u,x::m,h=>by
  simp only[idxOf]at h;cases hb:aaP x t with
  |true=>grind[EQ]
  |false=>rw[hb]at h;simp[]at h;obtain⟨v,hv,rfl⟩:=h;simpa using Kc hv
def Ke(m:List Nat)(s s':List SB):Prop:= ∀(t u:Nat) (b:SB),idxOf t m=aeg u->s[t]? =aeg b->match b with
 | .arr r l=>s'[u]? =aeg (.arr r l)
 | .dead=>s'[u]? =aeg .dead
 | .box _=> ∃cs,s'[u]? =aeg (.box cs)
 |_=>True
mutual
theorem Zq{m:List Nat}{s':List SB}(hr:Ke m s s'): ∀{v u:SV} {p:PV},R s v p->rL m v=aeg u-> ∃q,zF m p=aeg q/\R s' u q
 | .jX,_,_,_,hx=>by cases hx
 | .undef,u,p,h,hx| .nD,u,p,h,hx| .fv,u,p,h,hx| .int _ _,u,p,h,hx| .bool _,u,p,h,hx| .str _,u,p,h,hx| .sl _ _,u,p,h,hx| .nil _ _,u,p,h,hx=>by injection hx with hx;subst hx;rw[h];exact⟨_,rfl,rfl⟩
 | .agg cs,u,p,h,hx=>by
  obtain⟨q,rfl,h⟩:=h;simp[rL]at hx;split at hx
  ·rename_i l hl
   injection hx with hx;subst hx;obtain⟨q',h1,h2⟩:=yD hr h hl;exact⟨.agg q',by simp only[zF,h1];rfl,q',rfl,h2⟩
  cases hx
 | .cV cs,u,p,h,hx=>by
  obtain⟨q,rfl,h⟩:=h;simp[rL]at hx;split at hx
  ·rename_i l hl
   injection hx with hx;subst hx;obtain⟨q',h1,h2⟩:=yD hr h hl;exact⟨.cV q',by simp only[zF,h1];rfl,q',rfl,h2⟩
  cases hx
 | .own t ex,u,p,h,hx=>by
  obtain⟨e,n,rfl,dO⟩:=h;simp[rL]at hx;split at hx
  ·rename_i v hv
   injection hx with hx;subst hx;refine⟨.own v e 0 n n ex,by simp only[zF,hv];rfl,e,n,rfl,?_⟩;rcases dO with⟨r,l,h1,h2,h3⟩|h1
   ·exact .inl ⟨r,l,hr t v _ hv h1,h2,h3⟩
   exact .inr (hr t v _ hv h1)
  cases hx
 | .pre t len cap ex,u,p,h,hx=>by
  obtain⟨e,rfl,dO⟩:=h;simp[rL]at hx;split at hx
  ·rename_i v hv
   injection hx with hx;subst hx;refine⟨.own v e 0 len cap ex,by simp only[zF,hv];rfl,e,rfl,?_⟩;rcases dO with⟨r,l,h1,h2⟩|h1|⟨cs,h1,h2⟩
   ·exact .inl ⟨r,l,hr t v _ hv h1,h2⟩
   ·exact .inr (.inl (hr t v _ hv h1))
   obtain⟨c2,h3⟩:=hr t v _ hv h1
   exact .inr (.inr ⟨c2,h3,h2⟩)
  cases hx
 | .part t off len cap ex,u,p,h,hx=>by
  obtain⟨e,rfl,dO⟩:=h;simp[rL]at hx;split at hx
  ·rename_i v hv
   injection hx with hx;subst hx;refine⟨.own v e off len cap ex,by simp only[zF,hv];rfl,e,rfl,?_⟩;rcases dO with⟨r,l,h1,h2⟩|h1|⟨cs,h1,h2⟩
   ·exact .inl ⟨r,l,hr t v _ hv h1,h2⟩
   ·exact .inr (.inl (hr t v _ hv h1))
   obtain⟨c2,h3⟩:=hr t v _ hv h1
   exact .inr (.inr ⟨c2,h3,h2⟩)
  cases hx
 | .pa t r i a off,u,p,h,hx=>by
  obtain⟨rfl,dO⟩:=h;simp[rL]at hx;split at hx
  ·rename_i v hv
   injection hx with hx;subst hx;refine⟨.ptr v (aef r) i.toNat off,by simp only[zF,hv];rfl,aef r,rfl,?_⟩;rcases dO with⟨l,h1,h2⟩|h1
   ·exact .inl ⟨r,l,hr t v _ hv h1,by rw[h2];rfl⟩
   exact .inr (hr t v _ hv h1)
  cases hx
 | .pb t i off,u,p,h,hx=>by
  obtain⟨e,rfl,dO⟩:=h;simp[rL]at hx;split at hx
  ·rename_i v hv
   injection hx with hx;subst hx;refine⟨.ptr v e i.toNat off,by simp only[zF,hv];rfl,e,rfl,?_⟩;rcases dO with⟨r,l,h1,h2⟩|h1
   ·exact .inl ⟨r,l,hr t v _ hv h1,h2⟩
   exact .inr (hr t v _ hv h1)
  cases hx
 | .bp t n off,u,p,h,hx=>by
  rw[h];simp[rL]at hx;split at hx
  ·rename_i v hv
   injection hx with hx;subst hx;exact⟨.ptr v n 0 off,by simp only[zF,hv];rfl,rfl⟩
  cases hx
 | .bs t e n ex,u,p,h,hx=>by
  rw[h];simp[rL]at hx;split at hx
  ·rename_i v hv
   injection hx with hx;subst hx;exact⟨.own v e 0 n n ex,by simp only[zF,hv];rfl,rfl⟩
  cases hx
 | .bq t e r off,u,p,h,hx=>by
  rw[h];simp[rL]at hx;split at hx
  ·rename_i v hv
   injection hx with hx;subst hx;exact⟨.ptr v e r off,by simp only[zF,hv];rfl,rfl⟩
  cases hx
 | .bZ cs off,u,p,h,hx=>by
  obtain⟨q,rfl,h⟩:=h;simp[rL]at hx;split at hx
  ·rename_i l hl
   injection hx with hx;subst hx;obtain⟨q',h1,h2⟩:=yD hr h hl;exact⟨.bZ q' off,by simp only[zF,h1];rfl,q',rfl,h2⟩
  cases hx
 | .mp t,u,p,h,hx=>by
  rw[h];simp[rL]at hx;split at hx
  ·rename_i v hv
   injection hx with hx;subst hx;exact⟨.mp v,by simp only[zF,hv];rfl,rfl⟩
  cases hx
 | .fE f a b,u,p,h,hx=>by
  obtain⟨pa,pb,rfl,h1,h2⟩:=h;simp[rL]at hx;split at hx
  ·rename_i x y h3 h4
   injection hx with hx;subst hx;obtain⟨qa,h5,h6⟩:=yD hr h1 h3;obtain⟨qb,h7,h8⟩:=yD hr h2 h4;exact⟨.fE f qa qb,by simp[zF,h5,h7],qa,qb,rfl,h6,h8⟩
  cases hx
theorem yD{m:List Nat}{s':List SB}(hr:Ke m s s'): ∀{v u:List SV} {p:List PV},RL s v p->yz m v=aeg u-> ∃q,DZ m p=aeg q/\RL s' u q
 | [],u,p,h,hx=>by injection hx with hx;subst hx;rw[h];exact⟨_,rfl,rfl⟩
 |x::xs,u,p,h,hx=>by
  obtain⟨q,qs,rfl,h1,h2⟩:=h.cons_inv;simp[yz]at hx;split at hx
  ·rename_i a b h3 h4
   injection hx with hx;subst hx;obtain⟨a',h5,h6⟩:=Zq hr h1 h3;obtain⟨b',h7,h8⟩:=yD hr h2 h4;exact⟨a'::b',by simp[DZ,h5,h7],RL.cons h6 h8⟩
  cases hx
end
theorem afY{m:List Nat}{s':List SB}(hr:Ke m s s'){b c:SB}{q:ox}(h:RB s b q)(hx:SK m b=aeg c): ∃q',rR m q=aeg q'/\RB s' c q':=by
 cases b with
 |box cs=>
  obtain⟨p,rfl,h⟩:=h;simp[SK]at hx;split at hx
  ·rename_i l hl
   injection hx with hx;subst hx;obtain⟨q',h1,h2⟩:=yD hr h hl;exact⟨.box q',by simp only[rR,h1];rfl,q',rfl,h2⟩
  cases hx
 |arr r l=>injection hx with hx;subst hx;rw[h];exact⟨_,rfl,rfl⟩
 |set l=>injection hx with hx;subst hx;rw[h];exact⟨_,rfl,rfl⟩
 |mI p l=>injection hx with hx;subst hx;rw[h];exact⟨_,rfl,rfl⟩
 |dead=>injection hx with hx;subst hx;rw[h];exact⟨_,rfl,rfl⟩
theorem CD{m:List Nat}: ∀{ts:List Nat} {s1:List SB},LX s m ts=aeg s1->aef s1=aef ts/\ ∀(j t:Nat),ts[j]? =aeg t-> ∃b c,s[t]? =aeg b/\SK m b=aeg c/\s1[j]? =aeg c
 | [],s1,h=>by injection h with h;grind
 |t::ts,s1,h=>by
  simp[LX,cT]at h;split at h
  ·rename_i b hb
   split at h
   ·rename_i c r hc hr
    injection h with h;subst h;obtain⟨h1,h2⟩:=CD hr
    grind
   cases h
  cases h
theorem G6(hS:de s ps){m:List Nat}{s':List SB}(hr:Ke m s s'): ∀{ts:List Nat} {s1:List SB},LX s m ts=aeg s1-> ∃p1,B' ps m ts=aeg p1/\aef p1=aef s1/\ ∀(j:Nat) (b:SB),s1[j]? =aeg b-> ∃q,p1[j]? =aeg q/\RB s' b q
 | [],s1,h=>by injection h with h;subst h;exact⟨[],rfl,rfl,λj b h=>by simp at h⟩
 |t::ts,s1,h=>by
  simp[LX,cT]at h;split at h
  ·rename_i b hb
   split at h
   ·rename_i c r hc Yh
    injection h with h;subst h;obtain⟨q,h1,h2⟩:=hS.at_ t b hb;obtain⟨q',h3,h4⟩:=afY hr h2 hc;obtain⟨p1,h5,h6,h7⟩:=G6 hS hr Yh;refine⟨q'::p1,by simp[B',h1,h3,h5],by simp[h6],λj x hj=>?_⟩
    grind
   cases h
  cases h
theorem Ke.of{m:List Nat}{s1 l:List SB}(h:LX s m m=aeg s1):Ke m s (s1++l):=λt u b hu hb=>by
 have hm:=Kc hu;obtain⟨h1,h2⟩:=CD h;obtain⟨b',c,h3,h4,h5⟩:=h2 u t hm;rw[hb]at h3;injection h3 with h3;subst h3;cases b with
 |arr r l'=>injection h4 with h4;grind
 |dead=>injection h4 with h4;grind
 |box cs=>
  simp[SK]at h4
  grind
 |_=>trivial
theorem z7: ∀(rk:List _) (n:Nat),(rowOf rk n).length=n
 | [],n=>by simp[rowOf]
 |(m,r)::q,n=>by
  simp[rowOf];cases hc:(aaP m n&&aaP (aef r) n)with
  |true=>simp_all
  |false=>exact z7 q n
theorem G7{rk:List _}{e:SE}{m:List Nat}: ∀{live:List _} {nx:Nat} {e1:SE} {s2:List SB},Cx rk e m nx live=aeg (e1,s2)-> ∀(j:Nat) (b:SB),s2[j]? =aeg b-> ∃r,b= .arr r []
 | [],nx,e1,s2,h,j,b,hj=>by
  simp[Cx,]at h
  grind
 |(t,k)::live,nx,e1,s2,h,j,b,hj=>by
  simp[Cx]at h;split at h
  ·split at h
   ·rename_i p hp
    simp[]at h;obtain⟨rfl,rfl⟩:=h;cases j with
    |zero=>grind
    |succ j=>exact G7 hp j b (by simpa using hj)
   cases h
  split at h
  ·rename_i v' p hv hp
   simp[]at h;obtain⟨rfl,rfl⟩:=h;exact G7 hp j b hj
  cases h
mutual
theorem G8{m:List Nat}: ∀{v u:SV},rL m v=aeg u->u.sure=aej
 | .jX,_,h=>by cases h
 | .undef,u,h| .nD,u,h| .fv,u,h| .int _ _,u,h| .bool _,u,h| .str _,u,h| .sl _ _,u,h| .nil _ _,u,h=>by injection h with h;subst h;rfl
 | .agg cs,u,h=>by
  simp[rL]at h;split at h
  ·rename_i l hl;injection h with h;subst h;exact qM hl
  cases h
 | .cV cs,u,h=>by
  simp[rL]at h;split at h
  ·rename_i l hl;injection h with h;subst h;exact qM hl
  cases h
 | .bZ cs _,u,h=>by
  simp[rL]at h;split at h
  ·rename_i l hl;injection h with h;subst h;exact qM hl
  cases h
 | .own _ _,u,h=>by simp[rL]at h;split at h<;>first|(injection h with h;subst h;rfl)|cases h
 | .pre _ _ _ _,u,h=>by simp[rL]at h;split at h<;>first|(injection h with h;subst h;rfl)|cases h
 | .part _ _ _ _ _,u,h=>by simp[rL]at h;split at h<;>first|(injection h with h;subst h;rfl)|cases h
 | .pa _ _ _ _ _,u,h=>by simp[rL]at h;split at h<;>first|(injection h with h;subst h;rfl)|cases h
 | .pb _ _ _,u,h=>by simp[rL]at h;split at h<;>first|(injection h with h;subst h;rfl)|cases h
 | .bp _ _ _,u,h=>by simp[rL]at h;split at h<;>first|(injection h with h;subst h;rfl)|cases h
 | .bs _ _ _ _,u,h=>by simp[rL]at h;split at h<;>first|(injection h with h;subst h;rfl)|cases h
 | .bq _ _ _ _,u,h=>by simp[rL]at h;split at h<;>first|(injection h with h;subst h;rfl)|cases h
 | .mp _,u,h=>by simp[rL]at h;split at h<;>first|(injection h with h;subst h;rfl)|cases h
 | .fE f a b,u,h=>by
  simp[rL]at h;split at h
  ·rename_i x y h1 h2
   injection h with h;subst h;simp[SV.sure,qM h1,qM h2,acI]
  cases h
theorem qM{m:List Nat}: ∀{v u:List SV},yz m v=aeg u->p9 u=aej
 | [],u,h=>by injection h with h;subst h;rfl
 |x::xs,u,h=>by
  simp[yz]at h;split at h
  ·rename_i a b h1 h2
   injection h with h;subst h;simp[p9,G8 h1,qM h2,acI]
  cases h
end
theorem acE{s:List SB}{v:SV}{p:PV}(h:R s v p): ∀k:Option Nat,v.sure=aej->R s (Oi k v) (Mj k p)
 |none,_=>h
 |some _,hs=>by
  cases v with
  |own t ex=>obtain⟨e,n,rfl,h⟩:=h;exact⟨e,n,rfl,h⟩
  |pre t l c ex=>obtain⟨e,rfl,h⟩:=h;exact⟨e,rfl,h⟩
  |part t o l c ex=>obtain⟨e,rfl,h⟩:=h;exact⟨e,rfl,h⟩
  |jX=>cases hs
  |undef|nD|fv|int _ _|bool _|str _|bp _ _ _|bs _ _ _ _|bq _ _ _ _|mp _|sl _ _|nil _ _=>rw[h];rfl
  |agg _|cV _|bZ _ _=>obtain⟨q,rfl,h⟩:=h;exact⟨q,rfl,h⟩
  |fE _ _ _=>obtain⟨q,q2,rfl,h⟩:=h;exact⟨q,q2,rfl,h⟩
  |pa _ _ _ _ _=>obtain⟨rfl,h⟩:=h;exact⟨rfl,h⟩
  |pb _ _ _=>obtain⟨q,rfl,h⟩:=h;exact⟨q,rfl,h⟩
theorem S7{v:SV}(h:v.sure=aej)(k:Option Nat):(Oi k v).sure=aej:=by unfold Oi;split<;>first|rfl|exact h
theorem Ow{rk:List _}{e:SE}{pe:Env}(hE:eS s e pe){m:List Nat}{s':List SB}(hr:Ke m s s'): ∀{live:List _} {nx:Nat} {e1:SE} {s2:List SB},Cx rk e m nx live=aeg (e1,s2)->(∀(j:Nat) (b:SB),s2[j]? =aeg b->s'[nx+j]? =aeg b)->
 ∃p1 q2,yn pe m nx live=aeg (p1,q2)/\eS s' e1 p1/\aef q2=aef s2/\ ∀(j:Nat) (b:SB),s2[j]? =aeg b-> ∃q,q2[j]? =aeg q/\RB s' b q
 | [],nx,e1,s2,h,_=>by obtain⟨rfl,rfl⟩:=h;exact⟨[],[],rfl,rfl,rfl,λj b h=>by simp at h⟩
 |(t,k)::live,nx,e1,s2,h,hs=>by
  have Ay:=hE.lk t;simp[Cx]at h;split at h
  ·rename_i kk aO en hv
   split at h
   ·rename_i p hp
    obtain⟨rfl,rfl⟩:=h;rw[hv]at Ay;obtain⟨p1,q2,h1,h2,h3,h4⟩:=Ow hE hr hp (λj b hj=>by
     have:=hs (j+1) b (by simpa using hj)
     grind)
    refine⟨(t,.own nx aO 0 0 0 aek)::p1,.arr aO []::q2,?_,⟨_,_,rfl,⟨aO,0,rfl,.inl ⟨rowOf rk aO,[],by simpa using hs 0 _ rfl,(z7 rk aO).symm,rfl⟩⟩,h2⟩,by simp[h3],λj b hj=>?_⟩
    ·have afZ:lk t pe= .sl en aej []:=Ay
     simp only[yn,afZ,h1];rfl
    cases j with
    |zero=>simp at hj;subst hj;exact⟨_,rfl,by show _=_;rw[z7];rfl⟩
    |succ j=>grind
   cases h
  rename_i fo
  split at h
  ·rename_i v' p hv hp
   obtain⟨rfl,rfl⟩:=h;obtain⟨q',h5,h6⟩:=Zq hr Ay hv;obtain⟨p1,q2,h1,h2,h3,h4⟩:=Ow hE hr hp hs;refine⟨(t,Mj _ q')::p1,q2,?_,⟨_,_,rfl,acE h6 _ (G8 hv),h2⟩,h3,h4⟩;simp[yn];split
   ·rename_i aO x hx
    rw[hx]at Ay;generalize H3 t e=v0 at Ay hv fo;cases v0 with
    |jX=>cases hv
    |nil e' c=>have afZ:=Ay;injection afZ with h1 h2;simp_all
    |undef|nD|fv|int _ _|bool _|str _|bp _ _ _|bs _ _ _ _|bq _ _ _ _|mp _=>cases(Ay)
    |sl r l=>cases(Ay)
    |agg _|cV _|bZ _ _=>obtain⟨q,hq,_⟩:=Ay;cases hq
    |fE _ _ _=>obtain⟨q,q2,hq,_⟩:=Ay;cases hq
    |own _ _=>obtain⟨q,q2,hq,_⟩:=Ay;cases hq
    |pre _ _ _ _=>obtain⟨q,hq,_⟩:=Ay;cases hq
    |part _ _ _ _ _=>obtain⟨q,hq,_⟩:=Ay;cases hq
    |pa _ _ _ _ _=>obtain⟨hq,_⟩:=Ay;cases hq
    |pb _ _ _=>obtain⟨q,hq,_⟩:=Ay;cases hq
   grind
  cases h
def aeI(s:List SB):Prop:= ∀(t:Nat) (cs:List SV),s[t]? =aeg (.box cs)->p9 cs=aej
def MJ:SE->Prop
 | []=>True
 |(_,v)::r=>v.sure=aej/\MJ r
theorem MJ.lk: ∀{e:SE},MJ e-> ∀t,(H3 t e).sure=aej
 | [],_,t=>rfl
 |(u,v)::r,h,t=>by
  simp[H3];cases hb:aaP u t with
  |true=>exact h.1
  |false=>exact MJ.lk h.2 t
theorem EN{rk:List _}{e:SE}{m:List Nat}: ∀{live:List _} {nx:Nat} {e1:SE} {s2:List SB},Cx rk e m nx live=aeg (e1,s2)->MJ e1
 | [],nx,e1,s2,h=>by simp only[Cx,Option.some.injEq,aeb]at h;rw[<-h.1];trivial
 |(t,k)::live,nx,e1,s2,h=>by
  simp[Cx]at h;split at h
  ·split at h
   ·rename_i p hp
    simp[]at h;obtain⟨rfl,rfl⟩:=h;exact⟨rfl,EN hp⟩
   cases h
  split at h
  ·rename_i v' p hv hp
   simp[]at h;obtain⟨rfl,rfl⟩:=h;exact⟨S7 (G8 hv) _,EN hp⟩
  cases h
theorem MK: ∀{l:List SV},p9 l=aej-> ∀{n:Nat} {v:SV},nth l n=aeg v->v.sure=aej
 | [],_,_,_,h=>by cases h
 |x::xs,hs,0,v,h=>by injection h with h;subst h;simp[p9,]at hs;exact hs.1
 |x::xs,hs,n+1,v,h=>by simp[p9,]at hs;exact MK hs.2 h
theorem ML: ∀{l:List SV},p9 l=aej-> ∀(n:Nat) {v:SV},v.sure=aej->p9 (l.set n v)=aej
 | [],_,n,v,_=>rfl
 |x::xs,hs,0,v,h=>by simp[p9,]at hs;simp[p9,h,hs.2]
 |x::xs,hs,n+1,v,h=>by simp[p9,]at hs;simp[p9,hs.1,ML hs.2 n h]
theorem RL.set{s:List SB}: ∀{xs:List SV} {ps:List PV},RL s xs ps-> ∀(n:Nat) {v:SV} {p:PV},R s v p->RL s (xs.set n v) (ps.set n p)
 | [],ps,h,n,v,p,_=>by rw[h];exact RL.nil
 |x::xs,ps,h,0,v,p,hv=>by obtain⟨a,q,rfl,h1,h2⟩:=h.cons_inv;exact RL.cons hv h2
 |x::xs,ps,h,n+1,v,p,hv=>by obtain⟨a,q,rfl,h1,h2⟩:=h.cons_inv;exact RL.cons h1 (RL.set h2 n hv)
structure RSS(st:ua)(p:St):Prop where
 r:Dv st p
 s:aeI st.aB
 e:MJ st.env
theorem S8{rk:List (Nat×List PT)}{st:ua}{p:St}(h:RSS st p)(t c aO:Nat):RSS (JU rk st t c aO) (wI p t c aO):=by
 unfold JU wI;rw[cT];cases dd:st.aB[t]? with
 |none=>
  have:p.aB[t]? =aei:=by rw[abE]at dd ⊢;rw[h.r.aB.len];exact dd
  grind
 |some b=>
  obtain⟨q,h1,h2⟩:=h.r.aB.at_ t b dd;rw[h1];cases b with
  |arr r l=>rw[h2];exact h
  |set l=>rw[h2];exact h
  |mI p l=>rw[h2];exact h
  |dead=>rw[h2];exact h
  |box cs=>
   obtain⟨pc,rfl,h3⟩:=h2;dsimp only;cases hc:nth cs c with
   |none=>
    have:pc[c]? =aei:=by rw[cT,abE]at hc;rw[abE,h3.pN];exact hc
    grind
   |some v=>
    obtain⟨pv,h4,h5⟩:=h3.nth hc;rw[h4];have ajl:=MK (h.s t cs dd) hc;have v8:=h.s t cs dd;have other:(∀e,pv≠ .sl e aej [])->(∀e,v≠ .nil e aej)->RSS (match aeg v with
     |some (.nil _ aej)=>{st with aB:=st.aB.set t (.box (cs.set c (.own (aef st.aB) aek)))++[.arr (rowOf rk aO) []]}
     |_=>st) (match aeg pv with
     |some (.sl _ aej [])=>{p with aB:=p.aB.set t (.box (pc.set c (.own (aef p.aB) aO 0 0 0 aek)))++[.arr aO []]}
     |_=>p):=by
     grind
    cases v with
    |jX=>cases ajl
    |nil e' cl=>
     have h5':=h5;subst h5';cases cl with
     |false=>omega
     |true=>
      have iL:=(IR.1 dd).1;have zd:Fr [] st.aB (st.aB.set t (.box (cs.set c (.own (aef st.aB) aek)))++[.arr (rowOf rk aO) []]):=λu x hu=>by
       grind
      have anX:R (st.aB.set t (.box (cs.set c (.own (aef st.aB) aek)))++[.arr (rowOf rk aO) []]) (.own (aef st.aB) aek) (.own (aef p.aB) aO 0 0 0 aek):=by refine⟨aO,0,by rw[h.r.aB.len],.inl ⟨rowOf rk aO,[],?_,(z7 rk aO).symm,rfl⟩⟩;simp
      refine⟨⟨eS.ext zd h.r.env,⟨by simp[h.r.aB.len],λu x hu=>?_⟩,h.r.fz,h.r.kn⟩,λu x hu=>?_,h.e⟩
      ·rcases ac3 u (aef st.aB)with hul|hul
       ·rw[abt (by simpa using hul),aai]at hu
        by_cases hut:t=u
        ·subst hut
         simp[iL]at hu;subst hu;refine⟨.box (pc.set c (.own (aef p.aB) aO 0 0 0 aek)),?_,_,rfl,RL.set (RL.ext zd h3) c anX⟩
         grind
        simp[hut]at hu
        obtain⟨q,h6,h7⟩:=h.r.aB.at_ u x hu;refine⟨q,?_,h7.ext zd⟩
        grind
       rw[abq (by simpa using hul)]at hu
       simp[]at hu;have hu0:u-(aef st.aB)=0:=by
        grind
       rw[hu0]at hu;simp at hu;subst hu;refine⟨.arr aO [],?_,by show _=_;rw[z7];rfl⟩;rw[abq (by simp[h.r.aB.len];omega)];simp[h.r.aB.len,hu0]
      rcases ac3 u (aef st.aB)with hul|hul
      ·rw[abt (by simpa using hul),aai]at hu
       by_cases hut:t=u
       ·subst hut
        simp[iL]at hu;subst hu;exact ML v8 c rfl
       simp[hut]at hu;exact h.s u x hu
      grind
    |undef|nD|fv|int _ _|bool _|str _|bp _ _ _|bs _ _ _ _|bq _ _ _ _|mp _=>exact other (λe he=>by rw[h5]at he;cases he) (λe he=>by cases he)
    |sl r l=>exact other (λe he=>by rw[h5]at he;cases he) (λe he=>by cases he)
    |agg _|cV _|bZ _ _=>exact other (λe he=>by obtain⟨q,hq,_⟩:=h5;grind) (λe he=>by cases he)
    |fE _ _ _=>exact other (λe he=>by obtain⟨q,q2,hq,_⟩:=h5;grind) (λe he=>by cases he)
    |own _ _=>exact other (λe he=>by obtain⟨q,q2,hq,_⟩:=h5;grind) (λe he=>by cases he)
    |pre _ _ _ _|part _ _ _ _ _|pb _ _ _=>exact other (λe he=>by obtain⟨q,hq,_⟩:=h5;grind) (λe he=>by cases he)
    |pa _ _ _ _ _=>exact other (λe he=>by obtain⟨hq,_⟩:=h5;grind) (λe he=>by cases he)
theorem Ox{p:St}{t c aO:Nat}(h: ∀cs,p.aB[t]?≠aeg (.box cs)):wI p t c aO=p:=by unfold wI;simp
theorem Zr{st:ua}{p:St}(h:RSS st p){v:SV}{q:PV}(hv:R st.aB v q)(hs:v≠ .jX):(∃t,YZ v=aeg t/\Ji q=aeg t)\/(YZ v=aei/\ ∀t,Ji q=aeg t-> ∀cs,p.aB[t]?≠aeg (.box cs)):=by
 cases v with
 |jX=>grind
 |bp u m off=>
  have hq:=hv;subst hq;cases off with
  |zero=>exact .inl ⟨u,rfl,rfl⟩
  |succ off=>exact .inr ⟨rfl,λt ht=>by cases ht⟩
 |bq u m r off=>
  have hq:=hv;subst hq;cases off with
  |zero=>cases r with
   |zero=>exact .inl ⟨u,rfl,rfl⟩
   |succ r=>exact .inr ⟨rfl,λt ht=>by cases ht⟩
  |succ off=>exact .inr ⟨by cases r<;>rfl,λt ht=>by cases r<;>cases ht⟩
 |pb u i off=>
  obtain⟨e',hq,dO⟩:=hv;refine .inr ⟨rfl,λt ht cs v8=>?_⟩;have:t=u:=by
   unfold Ji at ht
   grind
  subst this;rcases dO with⟨r,l,h1,_⟩|h1
  ·rw[h.r.aB.arr h1]at v8;cases v8
  obtain⟨q,h2,h3⟩:=h.r.aB.at_ t _ h1
  rw[v8]at h2;injection h2 with h2;subst h2;cases(h3)
 |pa u r i a off=>
  obtain⟨hq,dO⟩:=hv;refine .inr ⟨rfl,λt ht cs v8=>?_⟩;have:t=u:=by
   unfold Ji at ht
   grind
  subst this;rcases dO with⟨l,h1,_⟩|h1
  ·rw[h.r.aB.arr h1]at v8;cases v8
  obtain⟨q,h2,h3⟩:=h.r.aB.at_ t _ h1
  rw[v8]at h2;injection h2 with h2;subst h2;cases(h3)
 |undef|nD|fv|int _ _|bool _|str _|mp _|sl _ _|nil _ _|bs _ _ _ _=>exact .inr ⟨rfl,λt ht=>by rw[hv]at ht;cases ht⟩
 |agg _|cV _|bZ _ _=>exact .inr ⟨rfl,λt ht=>by obtain⟨_,rfl,_⟩:=hv;cases ht⟩
 |fE _ _ _=>exact .inr ⟨rfl,λt ht=>by obtain⟨_,_,rfl,_⟩:=hv;cases ht⟩
 |own _ _=>exact .inr ⟨rfl,λt ht=>by obtain⟨_,_,rfl,_⟩:=hv;cases ht⟩
 |pre _ _ _ _|part _ _ _ _ _=>exact .inr ⟨rfl,λt ht=>by obtain⟨_,rfl,_⟩:=hv;cases ht⟩
theorem af0{st:ua}{p:St}(h:RSS st p){v:SV}{q:PV}(hv:R st.aB v q)(hs:v.sure=aej):(∃t,ach v=aeg t/\Pz q=aeg t)\/(ach v=aei/\ ∀t,Pz q=aeg t-> ∀cs,p.aB[t]?≠aeg (.box cs)):=by
 have hj:v≠ .jX:=λe=>by subst e;cases hs
 by_cases hc: ∃f a b,v= .fE f a b
 ·obtain⟨f,a,b,rfl⟩:=hc
  obtain⟨pa,pb,rfl,h1,h2⟩:=hv;cases b with
  |nil=>have:=h2;subst this;exact .inr ⟨rfl,λt ht=>by cases ht⟩
  |cons y ys=>obtain⟨z,zs,rfl,g1,g2⟩:=h2;exact Zr h g1 (λe=>by subst e;simp[SV.sure,p9]at hs)
 have e1:ach v=YZ v:=by
  cases v with
  |fE f a b=>grind
  |_=>rfl
 have e2:Pz q=Ji q:=by
  cases q with
  |fE f a b=>
   exfalso;cases v with
   |jX=>exact hj rfl
   |fE f a b=>grind
   |bp _ _ _|bs _ _ _ _|bq _ _ _ _|undef|nD|fv|int _ _|bool _|str _|mp _|sl _ _|nil _ _=>cases(hv)
   |agg _|cV _|bZ _ _|pre _ _ _ _|part _ _ _ _ _|pb _ _ _=>obtain⟨_,hq,_⟩:=hv;cases hq
   |own _ _=>obtain⟨_,_,hq,_⟩:=hv;cases hq
   |pa _ _ _ _ _=>obtain⟨hq,_⟩:=hv;cases hq
  |_=>rfl
 grind[Zr]
theorem rj{rk:List _}: ∀(live:List _) {st:ua} {p:St},RSS st p->RSS (uc rk live st) (oM live p)
 | [],st,p,h=>h
 |(t,k)::live,st,p,h=>by
  cases k with
  |none=>exact rj live h
  |some n=>
   simp only[uc,oM];cases hn:WF 1000 n with
   |false=>exact rj live h
   |true=>
    have Ay:=h.r.env.lk t;have hsu:=h.e.lk t;rcases af0 h Ay hsu with⟨u,e1,e2⟩|⟨e1,e2⟩
    ·rw[e1,e2]
     exact rj live (S8 h u _ _)
    rw[e1]
    cases hb:Pz _ with
    |none=>exact rj live h
    |some u=>show RSS _ (oM live (wI p u (n / 1000-1) (n%1000)));rw[Ox (e2 u hb)];exact rj live h
theorem Qu{e:SE}{pe:Env}(hE:eS s e pe): ∀{live:List _},FF e live=aej->JV e live=live.flatMap λp=>lG zE (lk p.1 pe)
 | [],_=>rfl
 |(t,k)::live,h=>by simp[FF,]at h;simp[JV,Qu hE h.2];rw[Zo (λ_=>rfl) (hE.lk t) h.1]
theorem Zs: ∀{s':List SB} {s:List SB} {ps:di} (n:Nat),(aef ps=aef s/\ ∀(t:Nat) (b:SB),s[t]? =aeg b-> ∃q,ps[t]? =aeg q/\RB s' b q)->JW s n=aej->SL s n=(ps.take n).flatMap wH
 |s',[],ps,n,h,_=>by have:=abv.1 (by simpa using h.1);subst this;cases n<;>simp[SL]
 |s',b::s,ps,0,h,_=>by simp[SL]
 |s',b::s,ps,n+1,h,hk=>by
  cases ps with
  |nil=>grind
  |cons q ps=>simp[JW,]at hk;obtain⟨q',h1,h2⟩:=h.2 0 b rfl;simp at h1;subst h1;simp[SL,Ov h2 hk.1];rw[Zs n ⟨by simpa using h.1,λt x hx=>by simpa using h.2 (t+1) x (by simpa using hx)⟩ hk.2]
theorem U6{s:List SB}{v:SV}{p:PV}(h:R s v p):R s (MD s v) p:=by
 unfold MD;split
 ·rename_i t ex
  rw[cT];split
  ·rename_i r l dd
   obtain⟨e,n,rfl,dO⟩:=h;obtain⟨rfl,rfl⟩:=dO.inv dd;exact⟨aef r,rfl,.inl ⟨r,l,dd,rfl⟩⟩
  exact h
 exact h
theorem U7{s:List SB}(c:Nat): ∀{e:SE} {p:Env},eS s e p->eS s (UT s c e) p
 | [],_,h=>h
 |(t,v)::r,_,h=>by
  obtain⟨q,qs,rfl,h1,h2⟩:=h;simp[UT];cases hb:aaP t c with
  |true=>exact⟨q,qs,rfl,U6 h1,h2⟩
  |false=>exact⟨q,qs,rfl,h1,U7 c h2⟩
theorem G9: ∀(live:List _) {st:ua} {p:St},Dv st p->Dv (FE live st) p
 | [],st,p,h=>h
 |(t,k)::r,st,p,h=>by
  simp[FE];cases hn:WF 1000000 t with
  |true=>exact G9 r ⟨U7 _ h.env,h.aB,h.fz,h.kn⟩
  |false=>exact G9 r h
theorem Zt{rk:List _}{live:List _}{st rU:ua}{p:St}(h:Dv st p)(hn:JX rk live st=aeg rU): ∃p1,Mk live p=aeg p1/\Dv rU p1:=by
 unfold JX at hn;cases hc:(FF st.env live&&JW st.aB st.kn)with
 |false=>grind
 |true=>
  rw[hc]at hn;simp[]at hc;split at hn
  ·cases hn
  rename_i m hm
  split at hn
  ·rename_i s1 e1 s2 h1 h2
   injection hn with hn;subst hn;have ht:SL st.aB st.kn++JV st.env live=(p.aB.take p.kn).flatMap wH++live.flatMap λq=>lG zE (lk q.1 p.env):=by rw[Qu h.env hc.1,Zs st.kn ⟨h.aB.len,h.aB.at_⟩ hc.2,h.kn]
   rw[ht]at hm;have Fv:=Kb h.aB _ _ _ _ hm;have hr:Ke m st.aB (s1++s2):=Ke.of h1;obtain⟨p1,a1,a2,a3⟩:=G6 h.aB hr h1;have eX:=(CD h1).1;obtain⟨pe1,q2,b1,b2,b3,b4⟩:=Ow h.env hr h2 (λj b hj=>by grind);have AI:de (s1++s2) (p1++q2):=⟨by simp[a2,b3],λt b ht=>by
    grind⟩
   have hs:aeI (s1++s2):=λt cs ht=>by
    rcases ac3 t (aef s1)with hl|hl
    ·rw[abt hl]at ht
     obtain⟨b,c,d1,d2,d3⟩:=(CD h1).2 t _ (PP (by omega));rw[ht]at d3;injection d3 with d3;subst d3;cases b with
     |box x=>
      simp[SK]at d2;split at d2
      ·rename_i l qH;injection d2 with d2;injection d2 with d2;subst d2;exact qM qH
      cases d2
     |arr _ _=>cases d2
     |set _=>cases d2
     |mI _ _=>cases d2
     |dead=>cases d2
    grind[abq,G7]
   have hR:RSS {env:=e1,aB:=s1++s2,fz:=Ca st.fz 0 m,kn:=st.kn} {env:=pe1,aB:=p1++q2,fz:=Ca p.fz 0 m,kn:=p.kn}:=
    ⟨⟨b2,AI,by rw[h.fz],h.kn⟩,hs,EN h2⟩
   refine⟨_,?_,G9 live (rj live hR).r⟩;unfold Mk;rw[h.kn]at Fv;rw[h.kn]
   grind
  cases hn
theorem U8{rk:List _}{live:List _}{st rU:ua}{p:St}(h:Dv st p)(hn:JY rk live st=aeg rU): ∃p1,norm live p=aeg p1/\Dv rU p1:=by
 unfold JY at hn;cases h1:JX rk live st with
 |none=>grind
 |some s=>
  unfold norm
  grind[Zt]
mutual
theorem I1: ∀{a b:SV} (q:List B6),yA a b=aej->zj a (G1 b++q)=(b,q)
 | .undef,.undef,q,_=>rfl
 | .nD,.nD,q,_=>rfl
 | .fv,.fv,q,_=>rfl
 | .int k _,.int l n,q,h=>by rw[gO.1 h];rfl
 | .bool _,.bool _,q,_=>rfl
 | .agg a,.agg b,q,h=>by simp[zj,G1,sj q h]
 | .cV a,.cV b,q,h=>by simp[zj,G1,sj q h]
 | .sl r _,.sl r' l,q,h=>rfl
 | .nil e c,.nil f d,q,h=>by simp only[yA,If,beq_iff_eq]at h;rw[EQ h.1,h.2];rfl
 | .own t x,.own u y,q,h=>by simp only[yA,If,beq_iff_eq]at h;rw[EQ h.1,h.2];rfl
 | .pre t _ _ x,.pre u _ _ y,q,h=>by simp only[yA,If,beq_iff_eq]at h;rw[EQ h.1,h.2];rfl
 | .part t _ _ _ x,.part u _ _ _ y,q,h=>by simp only[yA,If,beq_iff_eq]at h;rw[EQ h.1,h.2];rfl
 | .pb t _ o,.pb u _ p,q,h=>by simp only[yA,If]at h;rw[EQ h.1,EQ h.2];rfl
 | .bp t n o,.bp u m p,q,h=>by simp only[yA,If]at h;rw[EQ h.1.1,EQ h.1.2,EQ h.2];rfl
 | .bs t n o x,.bs u m p y,q,h=>by simp only[yA,If,beq_iff_eq]at h;rw[EQ h.1.1.1,EQ h.1.1.2,EQ h.1.2,h.2];rfl
 | .bq t n r o,.bq u m r' p,q,h=>by simp only[yA,If]at h;rw[EQ h.1.1.1,EQ h.1.1.2,EQ h.1.2,EQ h.2];rfl
 | .bZ a o,.bZ b p,q,h=>by simp only[yA,If]at h;simp[zj,G1,sj q h.1,EQ h.2]
 | .fE f a b,.fE g c d,q,h=>by simp only[yA,If]at h;simp[zj,G1,abu,sj _ h.1.2,sj q h.2,EQ h.1.1]
 | .mp t,.mp u,q,h=>by rw[EQ h];rfl
 | .jX,.jX,q,_=>rfl
theorem sj: ∀{a b:List SV} (q:List B6),Cy a b=aej->wR a (G2 b++q)=(b,q)
 | [],[],q,_=>rfl
 |x::xs,y::ys,q,h=>by simp[Cy,If]at h;simp[wR,G2,abu,I1 _ h.1,sj q h.2]
 | [],_::_,_,h=>by cases h
 |_::_,[],_,h=>by cases h
end
theorem Zu: ∀{a b:SB} (q:List B6),aeD a b=aej->SM a (Y0 b++q)=(b,q)
 | .arr r _,.arr r' l,q,h=>rfl
 | .box a,.box b,q,h=>by simp[SM,Y0,sj q h]
 | .set _,.set _,q,_=>rfl
 | .mI p _,.mI p' l,q,h=>by rfl
 | .dead,.dead,q,_=>rfl
 | .arr _ _,.box _,_,h| .arr _ _,.set _,_,h| .arr _ _,.dead,_,h| .box _,.arr _ _,_,h| .box _,.set _,_,h| .box _,.dead,_,h| .set _,.arr _ _,_,h| .set _,.box _,_,h| .set _,.dead,_,h| .dead,.arr _ _,_,h| .dead,.box _,_,h| .dead,.set _,_,h
 | .mI _ _,.arr _ _,_,h| .mI _ _,.box _,_,h| .mI _ _,.set _,_,h| .mI _ _,.dead,_,h| .arr _ _,.mI _ _,_,h| .box _,.mI _ _,_,h| .set _,.mI _ _,_,h| .dead,.mI _ _,_,h=>by cases h
theorem FT: ∀{a b:List SB} (q:List B6),JZ a b=aej->EG a (Oj b++q)=(b,q)
 | [],[],q,_=>rfl
 |x::xs,y::ys,q,h=>by simp[JZ,]at h;simp[EG,Oj,Zu _ h.1,FT q h.2]
 | [],_::_,_,h=>by cases h
 |_::_,[],_,h=>by cases h
theorem Qv: ∀{a b:SE} (q:List B6),UU a b=aej->Ql a (Wq b++q)=(b,q)
 | [],[],q,_=>rfl
 |(t,x)::xs,(u,y)::ys,q,h=>by simp only[UU,If]at h;simp[Ql,Wq,I1 _ h.1.2,Qv q h.2,EQ h.1.1]
 | [],_::_,_,h=>by cases h
 |_::_,[],_,h=>by cases h
theorem Qw: ∀{a b:List Nat},UW a b=aej->a=b
 | [],[],_=>rfl
 |x::xs,y::ys,h=>by simp only[UW,If]at h;rw[EQ h.1,Qw h.2]
 | [],_::_,h=>by cases h
 |_::_,[],h=>by cases h
theorem MM{a b:ua}(h:EF a b=aej):zY a (si b)=b:=by simp only[EF,If]at h;obtain⟨⟨⟨h1,h2⟩,h3⟩,h4⟩:=h;have hs:=FT [] h2;rw[abK]at hs;simp[zY,si,Qv _ h1,hs,Qw h3,EQ h4]
theorem AK.aeK: ∀{a:AK} {x:B6} {y:a.T},a.of x=aeg y->a.at y=x
 | .i,.i _,y,h=>by injection h with h;subst h;rfl
 | .b,.b _,y,h=>by injection h with h;subst h;rfl
 | .n,.n _,y,h=>by injection h with h;subst h;rfl
 | .l r,.l q x,y,h=>by obtain⟨rfl,rfl⟩:=ug h;rfl
 | .s,.s _,y,h=>by injection h with h;subst h;rfl
 | .i,.b _,_,h| .i,.n _,_,h| .i,.l _ _,_,h| .i,.s _,_,h| .b,.i _,_,h| .b,.n _,_,h| .b,.l _ _,_,h| .b,.s _,_,h| .n,.i _,_,h| .n,.b _,_,h| .n,.l _ _,_,h| .n,.s _,_,h
 | .l _,.i _,_,h| .l _,.b _,_,h| .l _,.n _,_,h| .l _,.s _,_,h| .s,.i _,_,h| .s,.b _,_,h| .s,.n _,_,h| .s,.l _ _,_,h=>by cases h
theorem uq: ∀{ks:List AK} {l:List B6} {y:kE ks},oR ks l=aeg y->qc ks y=l
 | [],[],y,_=>rfl
 | [a],[x],y,h=>by have:=AK.aeK h;simp[qc,this]
 |a::q::r,x::xs,y,h=>by
  simp[oR]at h;split at h
  ·rename_i u v h1 h2
   injection h with h;subst h;simp[qc,AK.aeK h1,uq h2]
  cases h
 | [],_::_,_,h=>by cases h
 | [_],[],_,h=>by cases h
 | [_],_::_::_,_,h=>by cases h
 |_::_::_,[],_,h=>by cases h
end
end Go.Vm
/- What is known of functions, and what a call of one comes to. -/
namespace Go.Vm
mutual
def Kf:Nat->PV->Option (PV×di)
 |_,.int k n=>aeg (.int k n,[])
 |_,.bool b=>aeg (.bool b,[])
 |nx,.agg cs=>match Kg nx cs with|some r=>aeg (.agg r.1,r.2)|none=>aei
 |nx,.cV cs=>match Kg nx cs with|some r=>aeg (.cV r.1,r.2)|none=>aei
 |nx,.sl e aek rows=>aeg (.own nx e 0 (aef rows) (aef rows) aek,[.arr e rows])
 |_,_=>aei
def Kg:Nat->List PV->Option (List PV×di)
 |_,[]=>aeg ([],[])
 |nx,x::xs=>match Kf nx x with
  |some a=>match Kg (nx+aef a.2) xs with
   |some b=>aeg (a.1::b.1,a.2++b.2)
   |none=>aei
  |none=>aei
end
def AY(s:List SB)(n:Nat)(l:List SB):Prop:= ∀(j:Nat) (b:SB),l[j]? =aeg b->s[n+j]? =aeg b
theorem AY.left{s:List SB}{n:Nat}{l m:List SB}(h:AY s n (l++m)):AY s n l:=λj b hj=>h j b (by
 grind)
theorem AY.right{s:List SB}{n:Nat}{l m:List SB}(h:AY s n (l++m)):AY s (n+aef l) m:=λj b hj=>by
 have:=h (aef l+j) b (by grind)
 grind
def S9(s:List SB)(l:List SB)(q:di):Prop:=aef q=aef l/\ ∀(j:Nat) (b:SB),l[j]? =aeg b-> ∃x,q[j]? =aeg x/\RB s b x
theorem S9.append{s l m:List SB}{q r:di}(h:S9 s l q)(k:S9 s m r):S9 s (l++m) (q++r):=by
 refine⟨by simp[h.1,k.1],λj b hj=>?_⟩;rcases ac3 j (aef l)with hl|hl
 ·rw[abt hl]at hj
  obtain⟨x,h1,h2⟩:=h.2 j b hj
  grind
 rw[abq hl]at hj
 obtain⟨x,h1,h2⟩:=k.2 _ b hj;exact⟨x,by rw[abq (by rw[h.1];exact hl),h.1];exact h1,h2⟩
theorem S9.nil{s:List SB}:S9 s [] []:=⟨rfl,λj b h=>by simp at h⟩
theorem S9.one{s:List SB}{b:SB}{x:ox}(h:RB s b x):S9 s [b] [x]:=⟨rfl,λj c hc=>by
 grind⟩
mutual
theorem U9: ∀{v:SV} {nx:Nat} {p0 p:PV} {q:di},xH v=aeg p0->Kf nx p0=aeg (p,q)-> ∀{s:List SB},AY s nx (Cw nx v).2->R s (Cw nx v).1 p/\S9 s (Cw nx v).2 q
 | .int k n,nx,p0,p,q,h0,h,s,_=>by injection h0 with h0;subst h0;injection h with h;injection h with h1 h2;subst h1 h2;exact⟨rfl,S9.nil⟩
 | .bool b,nx,p0,p,q,h0,h,s,_=>by injection h0 with h0;subst h0;injection h with h;injection h with h1 h2;subst h1 h2;exact⟨rfl,S9.nil⟩
 | .agg cs,nx,p0,p,q,h0,h,s,hb=>by
  simp[xH]at h0;split at h0
  ·rename_i l hl
   injection h0 with h0;subst h0;simp[Kf]at h;split at h
   ·rename_i r hr
    injection h with h;injection h with h1 h2;subst h1 h2;obtain⟨h3,h4⟩:=Kh hl hr hb;exact⟨⟨r.1,rfl,h3⟩,h4⟩
   cases h
  cases h0
 | .cV cs,nx,p0,p,q,h0,h,s,hb=>by
  simp[xH]at h0;split at h0
  ·rename_i l hl
   injection h0 with h0;subst h0;simp[Kf]at h;split at h
   ·rename_i r hr
    injection h with h;injection h with h1 h2;subst h1 h2;obtain⟨h3,h4⟩:=Kh hl hr hb;exact⟨⟨r.1,rfl,h3⟩,h4⟩
   cases h
  cases h0
 | .sl r l,nx,p0,p,q,h0,h,s,hb=>by injection h0 with h0;subst h0;injection h with h;injection h with h1 h2;subst h1 h2;refine⟨⟨aef r,aef l,by simp,.inl ⟨r,l,hb 0 _ rfl,rfl,rfl⟩⟩,S9.one rfl⟩
 | .nil e c,nx,p0,p,q,h0,h,s,hb=>by
  injection h0 with h0;subst h0;cases c with
  |true=>simp[Kf]at h
  |false=>injection h with h;injection h with h1 h2;subst h1 h2;exact⟨⟨e,0,rfl,.inl ⟨_,[],hb 0 _ rfl,by simp,rfl⟩⟩,S9.one (by show _=_;simp)⟩
 | .str _,nx,p0,p,q,h0,h,s,_=>by injection h0 with h0;subst h0;cases h
 | .fv,nx,p0,p,q,h0,h,s,_=>by injection h0 with h0;subst h0;cases h
 | .bZ cs o,nx,p0,p,q,h0,h,s,_=>by
  simp[xH]at h0;split at h0
  ·injection h0 with h0;subst h0;cases h
  cases h0
 | .fE f a b,nx,p0,p,q,h0,h,s,_=>by
  simp[xH]at h0;split at h0
  ·injection h0 with h0;subst h0;cases h
  cases h0
 | .jX,_,_,_,_,h0,_,_,_| .undef,_,_,_,_,h0,_,_,_| .nD,_,_,_,_,h0,_,_,_| .own _ _,_,_,_,_,h0,_,_,_| .pre _ _ _ _,_,_,_,_,h0,_,_,_| .part _ _ _ _ _,_,_,_,_,h0,_,_,_
 | .pa _ _ _ _ _,_,_,_,_,h0,_,_,_| .pb _ _ _,_,_,_,_,h0,_,_,_| .bp _ _ _,_,_,_,_,h0,_,_,_| .mp _,_,_,_,_,h0,_,_,_=>by cases h0
theorem Kh: ∀{v:List SV} {nx:Nat} {p0 p:List PV} {q:di},tN v=aeg p0->Kg nx p0=aeg (p,q)-> ∀{s:List SB},AY s nx (zi nx v).2->RL s (zi nx v).1 p/\S9 s (zi nx v).2 q
 | [],nx,p0,p,q,h0,h,s,_=>by injection h0 with h0;subst h0;injection h with h;injection h with h1 h2;subst h1 h2;exact⟨rfl,S9.nil⟩
 |x::xs,nx,p0,p,q,h0,h,s,hb=>by
  obtain⟨a,as,rfl,h1,h2⟩:=fV.1 h0;simp[Kg]at h;split at h
  ·rename_i ra hra
   split at h
   ·rename_i rb hrb
    injection h with h;injection h with e1 e2;subst e1 e2;simp[zi]at hb ⊢;obtain⟨k1,k2⟩:=U9 h1 hra hb.left;rw[k2.1]at hrb;obtain⟨k3,k4⟩:=Kh h2 hrb hb.right;exact⟨RL.cons k1 k3,k2.append k4⟩
   cases h
  cases h
end
mutual
theorem Zv{s:List SB}{ps:di}{z:List Nat}(hS:de s ps): ∀{v v':SV} {p:PV} {seen ia:List Nat} (nx:Nat),R s v p->Wp s z seen v=aeg (v',ia)-> ∃p0 p' q,xH v'=aeg p0/\Kf nx p0=aeg (p',q)/\Ff ps z nx seen p=aeg (p',q,ia)
 | .int k n,v',p,seen,ia,nx,h,hx=>by injection hx with hx;injection hx with h1 h2;subst h1 h2;rw[h];exact⟨_,_,_,rfl,rfl,rfl⟩
 | .bool k,v',p,seen,ia,nx,h,hx=>by injection hx with hx;injection hx with h1 h2;subst h1 h2;rw[h];exact⟨_,_,_,rfl,rfl,rfl⟩
 | .agg cs,v',p,seen,ia,nx,h,hx=>by
  obtain⟨q,rfl,h⟩:=h;simp[Wp]at hx;split at hx
  ·rename_i r hr
   injection hx with hx;injection hx with h1 h2;subst h1 h2;obtain⟨p0,p',q',h3,h4,h5⟩:=Oy hS nx h hr;exact⟨.agg p0,.agg p',q',by simp[xH,h3],by simp[Kf,h4],by simp only[Ff,h5];rfl⟩
  cases hx
 | .cV cs,v',p,seen,ia,nx,h,hx=>by
  obtain⟨q,rfl,h⟩:=h;simp[Wp]at hx;split at hx
  ·rename_i r hr
   injection hx with hx;injection hx with h1 h2;subst h1 h2;obtain⟨p0,p',q',h3,h4,h5⟩:=Oy hS nx h hr;exact⟨.cV p0,.cV p',q',by simp[xH,h3],by simp[Kf,h4],by simp only[Ff,h5];rfl⟩
  cases hx
 | .nil e c,v',p,seen,ia,nx,h,hx=>by
  cases c with
  |false=>cases hx
  |true=>injection hx with hx;injection hx with h1 h2;subst h1 h2;rw[h];exact⟨_,_,_,rfl,rfl,rfl⟩
 | .own t ex,v',p,seen,ia,nx,h,hx=>by
  obtain⟨e,n,rfl,dO⟩:=h;simp[Wp,cT]at hx;split at hx
  ·rename_i r l dd
   obtain⟨rfl,rfl⟩:=dO.inv dd;cases hc:(has seen t||has z t)with
   |true=>grind
   |false=>rw[hc]at hx;injection hx with hx;injection hx with h1 h2;subst h1 h2;refine⟨_,_,_,rfl,rfl,?_⟩;simp only[Ff,hS.arr dd,hc];simp
  cases hx
 | .jX,_,_,_,_,_,_,hx| .undef,_,_,_,_,_,_,hx| .nD,_,_,_,_,_,_,hx| .fv,_,_,_,_,_,_,hx| .str _,_,_,_,_,_,_,hx| .sl _ _,_,_,_,_,_,_,hx| .pre _ _ _ _,_,_,_,_,_,_,hx| .part _ _ _ _ _,_,_,_,_,_,_,hx
 | .pa _ _ _ _ _,_,_,_,_,_,_,hx| .pb _ _ _,_,_,_,_,_,_,hx| .bp _ _ _,_,_,_,_,_,_,hx| .bZ _ _,_,_,_,_,_,_,hx| .fE _ _ _,_,_,_,_,_,_,hx| .mp _,_,_,_,_,_,_,hx=>by cases hx
theorem Oy{s:List SB}{ps:di}{z:List Nat}(hS:de s ps): ∀{v v':List SV} {p:List PV} {seen ia:List Nat} (nx:Nat),RL s v p->Qk s z seen v=aeg (v',ia)-> ∃p0 p' q,tN v'=aeg p0/\Kg nx p0=aeg (p',q)/\Nz ps z nx seen p=aeg (p',q,ia)
 | [],v',p,seen,ia,nx,h,hx=>by injection hx with hx;injection hx with h1 h2;subst h1 h2;rw[h];exact⟨_,_,_,rfl,rfl,rfl⟩
 |x::xs,v',p,seen,ia,nx,h,hx=>by
  obtain⟨a,as,rfl,h1,h2⟩:=h.cons_inv;simp[Qk]at hx;split at hx
  ·rename_i r hr
   split at hx
   ·rename_i r2 hr2
    injection hx with hx;injection hx with e1 e2;subst e1 e2;obtain⟨p0,p',q,k1,k2,k3⟩:=Zv hS nx h1 hr;obtain⟨p02,p'2,q2,k4,k5,k6⟩:=Oy hS (nx+aef q) h2 hr2;exact⟨p0::p02,p'::p'2,q++q2,fV.2 ⟨_,_,rfl,k1,k4⟩,by simp[Kg,k2,k5],by simp[Nz,k3,k6]⟩
   cases hx
  cases hx
end
mutual
theorem Qx{s:List SB}: ∀{v:SV} {p:PV},R s v p->EE v=aej->p.oC=aej
 | .int _ _,p,h,_| .bool _,p,h,_| .str _,p,h,_=>by rw[h];rfl
 | .agg cs,p,h,hn=>by obtain⟨q,rfl,h⟩:=h;exact G' h hn
 | .cV cs,p,h,hn=>by obtain⟨q,rfl,h⟩:=h;exact G' h hn
 | .jX,_,_,h| .undef,_,_,h| .nD,_,_,h| .fv,_,_,h| .sl _ _,_,_,h| .nil _ _,_,_,h| .own _ _,_,_,h| .pre _ _ _ _,_,_,h| .part _ _ _ _ _,_,_,h| .pa _ _ _ _ _,_,_,h| .pb _ _ _,_,_,h| .bp _ _ _,_,_,h| .bZ _ _,_,_,h| .fE _ _ _,_,_,h| .mp _,_,_,h=>by cases h
theorem G'{s:List SB}: ∀{v:List SV} {p:List PV},RL s v p->wQ v=aej->AB p=aej
 | [],p,h,_=>by rw[h];rfl
 |x::xs,p,h,hn=>by obtain⟨a,as,rfl,h1,h2⟩:=h.cons_inv;simp[wQ,If]at hn;simp[AB,Qx h1 hn.1,G' h2 hn.2,acI]
end
mutual
theorem MN{s:List SB}{u:SV}: ∀{v:SV} {p:PV},R s v p->EE v=aek->YY s v=aeg u->p.oC=aek
 | .int _ _,p,h,hn,_| .bool _,p,h,hn,_| .str _,p,h,hn,_=>by cases hn
 | .agg cs,p,h,hn,hi=>by
  obtain⟨q,rfl,h⟩:=h;simp[YY]at hi;split at hi
  ·rename_i l hl;exact EO h hn hl
  cases hi
 | .cV cs,p,h,hn,hi=>by
  obtain⟨q,rfl,h⟩:=h;simp[YY]at hi;split at hi
  ·rename_i l hl;exact EO h hn hl
  cases hi
 | .sl _ _,p,h,_,_=>by rw[h];rfl
 | .nil _ _,p,h,_,_=>by rw[h];rfl
 | .own _ _,p,h,_,_=>by obtain⟨e,n,rfl,_⟩:=h;rfl
 | .pre _ _ _ _,p,h,_,_=>by obtain⟨e,rfl,_⟩:=h;rfl
 | .part _ _ _ _ _,p,h,_,_=>by obtain⟨e,rfl,_⟩:=h;rfl
 | .jX,_,_,_,h| .undef,_,_,_,h| .nD,_,_,_,h| .fv,_,_,_,h| .pa _ _ _ _ _,_,_,_,h| .pb _ _ _,_,_,_,h| .bp _ _ _,_,_,_,h| .bZ _ _,_,_,_,h| .fE _ _ _,_,_,_,h| .mp _,_,_,_,h=>by cases h
theorem EO{s:List SB}: ∀{v u:List SV} {p:List PV},RL s v p->wQ v=aek->SJ s v=aeg u->AB p=aek
 | [],u,p,h,hn,_=>by cases hn
 |x::xs,u,p,h,hn,hi=>by
  obtain⟨a,as,rfl,h1,h2⟩:=h.cons_inv;simp[SJ]at hi;split at hi
  ·rename_i y ys h3 h4
   simp[wQ]at hn;simp only[AB];cases hx:EE x with
   |false=>rw[MN h1 hx h3];rfl
   |true=>rw[hx]at hn;rw[EO h2 (by simpa using hn) h4];simp
  cases hi
end
mutual
theorem aeL{s:List SB}{ps:di}(hS:de s ps): ∀{v u:SV} {p:PV},R s v p->YY s v=aeg u-> ∃q,D3 ps p=aeg q/\xH u=aeg q
 | .int k n,u,p,h,hx=>by injection hx with hx;subst hx;rw[h];exact⟨_,rfl,rfl⟩
 | .bool b,u,p,h,hx=>by injection hx with hx;subst hx;rw[h];exact⟨_,rfl,rfl⟩
 | .str x,u,p,h,hx=>by injection hx with hx;subst hx;rw[h];exact⟨_,rfl,rfl⟩
 | .agg cs,u,p,h,hx=>by
  obtain⟨q,rfl,h⟩:=h;simp[YY]at hx;split at hx
  ·rename_i l hl
   injection hx with hx;subst hx;obtain⟨q',h1,h2⟩:=S' hS h hl;exact⟨.agg q',by simp only[D3,h1];rfl,by simp[xH,h2]⟩
  cases hx
 | .cV cs,u,p,h,hx=>by
  obtain⟨q,rfl,h⟩:=h;simp[YY]at hx;split at hx
  ·rename_i l hl
   injection hx with hx;subst hx;obtain⟨q',h1,h2⟩:=S' hS h hl;exact⟨.cV q',by simp only[D3,h1];rfl,by simp[xH,h2]⟩
  cases hx
 | .sl r l,u,p,h,hx=>by injection hx with hx;subst hx;rw[h];exact⟨_,rfl,rfl⟩
 | .nil e c,u,p,h,hx=>by injection hx with hx;subst hx;rw[h];exact⟨_,rfl,rfl⟩
 | .own t ex,u,p,h,hx=>by
  simp[YY,cT]at hx;split at hx
  ·rename_i r l dd
   injection hx with hx;subst hx;obtain⟨e,n,rfl,dO⟩:=h;obtain⟨rfl,rfl⟩:=dO.inv dd;refine⟨.sl (aef r) aek (l.map (RT.pv r)),?_,rfl⟩;simp[D3,hS.arr dd,abB];rw[aby (by simp)]
  cases hx
 | .pre t len cap ex,u,p,h,hx=>by
  simp[YY,cT]at hx;split at hx
  ·rename_i r l dd
   injection hx with hx;subst hx;obtain⟨e,rfl,dO⟩:=h;have:=dO.inv dd;subst this;refine⟨.sl (aef r) aek ((l.take len).map (RT.pv r)),?_,rfl⟩;simp[D3,hS.arr dd,abB,abz]
  cases hx
 | .part t off len cap ex,u,p,h,hx=>by
  simp[YY,cT]at hx;split at hx
  ·rename_i r l dd
   injection hx with hx;subst hx;obtain⟨e,rfl,dO⟩:=h;have:=dO.inv dd;subst this;refine⟨.sl (aef r) aek (((l.drop off).take len).map (RT.pv r)),?_,rfl⟩;simp[D3,hS.arr dd,abz,acG]
  cases hx
 | .jX,_,_,_,hx| .undef,_,_,_,hx| .nD,_,_,_,hx| .fv,_,_,_,hx| .pa _ _ _ _ _,_,_,_,hx| .pb _ _ _,_,_,_,hx| .bp _ _ _,_,_,_,hx| .bZ _ _,_,_,_,hx| .fE _ _ _,_,_,_,hx| .mp _,_,_,_,hx=>by cases hx
theorem S'{s:List SB}{ps:di}(hS:de s ps): ∀{v u:List SV} {p:List PV},RL s v p->SJ s v=aeg u-> ∃q,Ny ps p=aeg q/\tN u=aeg q
 | [],u,p,h,hx=>by injection hx with hx;subst hx;rw[h];exact⟨_,rfl,rfl⟩
 |x::xs,u,p,h,hx=>by
  obtain⟨a,as,rfl,h1,h2⟩:=h.cons_inv;simp[SJ]at hx;split at hx
  ·rename_i y ys h3 h4
   injection hx with hx;subst hx;obtain⟨q,h5,h6⟩:=aeL hS h1 h3;obtain⟨qs,h7,h8⟩:=S' hS h2 h4;exact⟨q::qs,by simp[Ny,h5,h7],fV.2 ⟨_,_,rfl,h6,h8⟩⟩
  cases hx
end
mutual
theorem Zw{s:List SB}: ∀{v:SV} {p:PV},xH v=aeg p->R s v p
 | .int _ _,p,h| .bool _,p,h| .str _,p,h| .fv,p,h| .sl _ _,p,h| .nil _ _,p,h=>by injection h with h;exact h.symm
 | .agg cs,p,h=>by
  simp[xH]at h;split at h
  ·rename_i l hl;injection h with h;exact⟨l,h.symm,Ki hl⟩
  cases h
 | .cV cs,p,h=>by
  simp[xH]at h;split at h
  ·rename_i l hl;injection h with h;exact⟨l,h.symm,Ki hl⟩
  cases h
 | .bZ cs o,p,h=>by
  simp[xH]at h;split at h
  ·rename_i l hl;injection h with h;exact⟨l,h.symm,Ki hl⟩
  cases h
 | .fE f a b,p,h=>by
  simp[xH]at h;split at h
  ·rename_i x y h1 h2;injection h with h;exact⟨x,y,h.symm,Ki h1,Ki h2⟩
  cases h
 | .jX,_,h| .undef,_,h| .nD,_,h| .own _ _,_,h| .pre _ _ _ _,_,h| .part _ _ _ _ _,_,h| .pa _ _ _ _ _,_,h| .pb _ _ _,_,h| .bp _ _ _,_,h| .mp _,_,h=>by cases h
theorem Ki{s:List SB}: ∀{v:List SV} {p:List PV},tN v=aeg p->RL s v p
 | [],p,h=>by injection h with h;exact h.symm
 |x::xs,p,h=>by obtain⟨a,as,rfl,h1,h2⟩:=fV.1 h;exact RL.cons (Zw h1) (Ki h2)
end
def aeM(kd:Kd)(n:Nat)(tk:List Nat)(v:SV)(r:rQ):Prop:=
 match kd with
 | .pure=> ∃p,xH v=aeg p/\r={v:=p,rd:=tk}
 | .lK=> ∃p,xH v=aeg p/\r={v:=p,rd:=tk,fr:=tk}
 | .own=> ∃p0 p q,xH v=aeg p0/\Kf n p0=aeg (p,q)/\r={v:=p,news:=q,rd:=tk}
def jJ(F : qo)(f : FuncId)(c : GB) : Prop :=
  ∀ (a : c.α) (b : c.β) (as args : List PV) (aB : di) (fz : List Nat), c.fn a = aeg b -> tN (c.args.enc a) = aeg args -> GF aB (B9 aB deep) as = aeg args ->
    ∃ n r, eK F (run F n) c.ow f as aB fz = aeg r /\ aeM c.kd (aef aB) (fb (gN aB deep) as) (c.res.enc b) r
def fB.va(c:fB)(a:kE c.ka):List SV:=(wR c.ta (qc c.ka a)).1
def fB.sa(c:fB)(a:kE c.ka):List SB:=(EG c.tb (wR c.ta (qc c.ka a)).2).1
def fB.vb(c:fB)(b:kE c.ko):SV:=(zj c.tv (qc c.ko b)).1
def fB.sb(c:fB)(b:kE c.ko):List SB:=(EG c.to (zj c.tv (qc c.ko b)).2).1
def Zx:SB->SB->Prop
 | .arr r l,.arr q m=>r=q/\aef m=aef l
 | .box _,.box _=>True
 | .set _,.set _=>True
 | .mI _ _,.mI _ _=>True
 | .dead,.dead=>True
 |_,_=>False
def jY(F : qo)(f : FuncId)(c : fB) : Prop :=
  ∀ (a : kE c.ka) (b : kE c.ko) (pa : List PV) (ps : di), c.fn a = aeg b -> RL (c.sa a) (c.va a) pa -> de (c.sa a) ps ->
    ∃ n v s, run F n (.func f pa ps []) = aeg (.func v s []) /\ ky (c.sa a).length v s = aej /\ R (c.sb b) (c.vb b) v /\ de (c.sb b) (s.take (c.sa a).length) /\ (c.sb b).length = (c.sa a).length /\
      ∀ (t : Nat) (x y : SB), (c.sa a)[t]? = aeg x -> (c.sb b)[t]? = aeg y -> Zx x y
def CE(F:qo):List (Nat×GB)->Prop
 | []=>True
 |(f,c)::r=>jJ F f c/\CE F r
def Kj(F:qo):List (Nat×fB)->Prop
 | []=>True
 |(f,c)::r=>jY F f c/\Kj F r
def Dz(F:qo):List (Nat×Cd)->Prop
 | []=>True
 |(f,x)::r=>F f=aeg x.ent/\Dz F r
structure ur(F:qo)(cx:Ctx):Prop where
 con: ∀f c,c∈cx.con f->jJ F f c
 fpc: ∀f c,c∈cx.fpc f->jY F f c
 code: ∀f x,cx.code f=aeg x->F f=aeg x.ent
theorem CE.mem{F:qo}: ∀{l:List _},CE F l-> ∀f c,c∈Qo l f->jJ F f c
 | [],_,f,c,h=>by cases h
 |(g,d)::r,hl,f,c,h=>by
  simp[Qo]at h;cases hb:aaP g f with
  |true=>
   rw[hb]at h;have:=EQ hb;subst this;rcases h with _|⟨_,h⟩
   ·exact hl.1
   exact CE.mem hl.2 _ c h
  |false=>rw[hb]at h;exact CE.mem hl.2 f c h
theorem Kj.mem{F:qo}: ∀{l:List _},Kj F l-> ∀f c,c∈Qp l f->jY F f c
 | [],_,f,c,h=>by cases h
 |(g,d)::r,hl,f,c,h=>by
  simp[Qp]at h;cases hb:aaP g f with
  |true=>
   rw[hb]at h;have:=EQ hb;subst this;rcases h with _|⟨_,h⟩
   ·exact hl.1
   exact Kj.mem hl.2 _ c h
  |false=>rw[hb]at h;exact Kj.mem hl.2 f c h
theorem Dz.mem{F:qo}: ∀{l:List _},Dz F l-> ∀f x,Oo l f=aeg x->F f=aeg x.ent
 | [],_,f,c,h=>by cases h
 |(g,d)::r,hl,f,c,h=>by
  simp[Oo]at h;cases hb:aaP g f with
  |true=>rw[hb]at h;have:=EQ hb;subst this;injection h with h;subst h;exact hl.1
  |false=>rw[hb]at h;exact Dz.mem hl.2 f c h
theorem ur.make{F:qo}{lp:Option Nat}{c:List _}{p:List _}{x:List _}{rk:List _}(h1:CE F c)(h2:Kj F p)(h3:Dz F x):ur F (yi lp c p x rk):=
 ⟨h1.mem,h2.mem,h3.mem⟩
section
variable {F : qo} {R' ρ : Type} {w : R' -> ρ} {y : ρ} {s : List SB} {ps : di} {z : List Nat}
theorem CF{f:FuncId}{m:Bool}{tk:List Nat}{vs:List SV}{k:XRS->js R'}(hS:de s ps){as args:List PV}(hx:GF ps (B9 ps deep) as=aeg args)(hv:tN vs=aeg args)(LM:tk=fb (gN ps deep) as):
 ∀{l:List GB},(∀c∈l,jJ F f c)->SP f m s tk vs k l ρ w=aeg y-> ∃sr pr,(∃n,eK F (run F n) m f as ps z=aeg pr)/\Good s ps sr pr/\k (.loc sr) ρ w=aeg y
 | [],_,h=>by cases h
 |c::l,hl,h=>by
  simp[SP]at h;cases hd:c.args.dec vs with
  |none=>rw[hd]at h;exact CF hS hx hv LM (λc hc=>hl c (abS _ hc)) h
  |some a=>
   rw[hd]at h;cases hmo:(m==c.ow)with
   |false=>rw[hmo]at h;exact CF hS hx hv LM (λc hc=>hl c (abS _ hc)) h
   |true=>
   rw[hmo]at h;obtain⟨b,hb,h2⟩:=dz h;have hm:m=c.ow:=by simpa using hmo
   subst hm;have anY:=c.args.law hd hv;obtain⟨n,r,hr,FA⟩:=hl c (abN ..) a b as args ps z hb anY hx;cases hkd:c.kd with
   |pure=>rw[hkd]at h2 FA;obtain⟨p,h3,rfl⟩:=FA;exact⟨_,_,⟨n,hr⟩,by grind[Good.val,Zw],h2⟩
   |lK=>rw[hkd]at h2 FA;obtain⟨p,h3,rfl⟩:=FA;exact⟨_,_,⟨n,hr⟩,by grind[Good.val,Zw],h2⟩
   |own=>
    rw[hkd]at h2 FA;obtain⟨p0,p,q,h3,h4,rfl⟩:=FA;rw[hS.len]at h4;have hbh:AY (s++(Cw (aef s) (c.res.enc b)).2) (aef s) (Cw (aef s) (c.res.enc b)).2:=λj x hj=>by
     grind
    obtain⟨k1,k2⟩:=U9 h3 h4 hbh;exact⟨_,_,⟨n,hr⟩,by rw[<-LM];exact Good.news hS k2.1 k2.2 k1,h2⟩
end
end Go.Vm
/- A call of a function that works on the blocks that are lent to it. -/
namespace Go.Vm
def xJ{α:Type}:List (Nat×α)->List α->List α
 | [],s=>s
 |(t,b)::r,s=>xJ r (s.set t b)
theorem AZ: ∀(l:List _) (s:List SB),xI l s=xJ l s
 | [],s=>rfl
 |(t,b)::r,s=>by simp[xI,xJ,FJ,AZ r]
theorem Ie: ∀(l:List _) (s:di),lH l s=xJ l s
 | [],s=>rfl
 |(t,b)::r,s=>by simp[lH,xJ,Ie r]
theorem EP{α:Type}: ∀(l:List _) (s:List α),(xJ l s).length=aef s
 | [],s=>rfl
 |(t,b)::r,s=>by simp[xJ,EP r]
theorem A0{α:Type}: ∀(l:List _) (s:List α) (t:Nat),t∉l.map (·.1)->(xJ l s)[t]? =s[t]?
 | [],s,t,_=>rfl
 |(u,b)::r,s,t,h=>by
  simp only[abA,List.mem_cons,not_or]at h;simp[xJ];rw[A0 r _ t h.2,aai]
  grind
theorem Ha{α:Type}: ∀(l:List _) (s:List α) (j t:Nat) (b:α),(l.map (·.1)).Nodup->l[j]? =aeg (t,b)->t<aef s->(xJ l s)[t]? =aeg b
 | [],s,j,t,b,_,h,_=>by simp at h
 |(u,c)::r,s,0,t,b,hn,h,ht=>by
  simp[xJ]
  grind[A0]
 |(u,c)::r,s,j+1,t,b,hn,h,ht=>by simp[]at hn;exact Ha r _ j t b hn.2 (by simpa using h) (by simpa using ht)
theorem FU: ∀(l:List _),FH l=l.map (·.1)
 | []=>rfl
 |(t,b)::r=>by simp[FH,FU r]
theorem MO(g:Nat->Nat): ∀(tk:List Nat) (s:List SB),aef s=aef tk->(Ea g tk s).map (·.1)=tk/\ ∀(j t:Nat) (b:SB),tk[j]? =aeg t->s[j]? =aeg b->(Ea g tk s)[j]? =aeg (t,Y5 g b)
 | [],s,h=>⟨by simp[Ea],λj t b hj=>by simp at hj⟩
 |t::tk,[],h=>by simp at h
 |t::tk,b::s,h=>by
  obtain⟨h1,h2⟩:=MO g tk s (by simpa using h);refine⟨by simp[Ea,h1],λj u c hj hc=>?_⟩;cases j with
  |zero=>simp at hj hc;subst hj hc;rfl
  |succ j=>simp[Ea,];grind
theorem Kk(g:Nat->Nat): ∀(tk:List Nat) (s:di),aef tk<=aef s->(tU g tk s).map (·.1)=tk/\ ∀(j t:Nat) (b:ox),tk[j]? =aeg t->s[j]? =aeg b->(tU g tk s)[j]? =aeg (t,D4 g b)
 | [],s,h=>⟨by simp[tU],λj t b hj=>by simp at hj⟩
 |t::tk,[],h=>by simp at h
 |t::tk,b::s,h=>by
  obtain⟨h1,h2⟩:=Kk g tk s (by simpa using h);refine⟨by simp[tU,h1],λj u c hj hc=>?_⟩;cases j with
  |zero=>simp at hj hc;subst hj hc;rfl
  |succ j=>simp[tU,];grind
theorem MP: ∀{l:List _},(l.map (·.1)).Nodup->AE l=aej
 | [],_=>rfl
 |p::r,h=>by
  simp[]at h;simp[AE,];refine⟨λq hq=>?_,MP h.2⟩
  grind[EQ]
theorem Oz: ∀(s:List SB),IG [] s=s
 | []=>rfl
 |b::r=>by simp[IG,Oz r];cases b<;>simp[dgB,yB]
theorem Qy(s:List SB)(r:iR):r.rh s=IG (FH r.wr) (xI r.wr s)++r.news:=by
 unfold iR.rh;split
 ·rename_i h;rw[h];simp[FH,xI,Oz,qg]
 simp[qg]
def af1(g:Nat->Nat)(s s2:List SB):Prop:= ∀(u:Nat) (x:SB),s[u]? =aeg x->match x with
 | .arr r l=>s2[g u]? =aeg (.arr r l)
 | .dead=>s2[g u]? =aeg .dead
 | .box _=> ∃cs,s2[g u]? =aeg (.box cs)
 |_=>True
mutual
theorem U'{g:Nat->Nat}{s s2:List SB}(hb:af1 g s s2): ∀{v:SV} {p:PV},R s v p->R s2 (Qm g v) (GG g p)
 | .jX,_,_=>trivial
 | .undef,p,h| .nD,p,h| .fv,p,h| .int _ _,p,h| .bool _,p,h| .str _,p,h| .sl _ _,p,h| .nil _ _,p,h| .bp _ _ _,p,h| .bs _ _ _ _,p,h| .bq _ _ _ _,p,h| .mp _,p,h=>by rw[show p=_ from h];rfl
 | .agg cs,p,h=>by obtain⟨q,rfl,h⟩:=h;exact⟨_,rfl,A2 hb h⟩
 | .cV cs,p,h=>by obtain⟨q,rfl,h⟩:=h;exact⟨_,rfl,A2 hb h⟩
 | .bZ cs o,p,h=>by obtain⟨q,rfl,h⟩:=h;exact⟨_,rfl,A2 hb h⟩
 | .fE f a b,p,h=>by obtain⟨pa,pb,rfl,h1,h2⟩:=h;exact⟨_,_,rfl,A2 hb h1,A2 hb h2⟩
 | .own t ex,p,h=>by
  obtain⟨e,n,rfl,dO⟩:=h;refine⟨e,n,rfl,?_⟩;rcases dO with⟨r,l,h1,h2,h3⟩|h1
  ·exact .inl ⟨r,l,hb t _ h1,h2,h3⟩
  exact .inr (hb t _ h1)
 | .pre t a b c,p,h=>by
  obtain⟨e,rfl,dO⟩:=h;refine⟨e,rfl,?_⟩;rcases dO with⟨r,l,h1,h2⟩|h1|⟨cs,h1,h2⟩
  ·exact .inl ⟨r,l,hb t _ h1,h2⟩
  ·exact .inr (.inl (hb t _ h1))
  obtain⟨c2,h3⟩:=hb t _ h1
  exact .inr (.inr ⟨c2,h3,h2⟩)
 | .part t o a b c,p,h=>by
  obtain⟨e,rfl,dO⟩:=h;refine⟨e,rfl,?_⟩;rcases dO with⟨r,l,h1,h2⟩|h1|⟨cs,h1,h2⟩
  ·exact .inl ⟨r,l,hb t _ h1,h2⟩
  ·exact .inr (.inl (hb t _ h1))
  obtain⟨c2,h3⟩:=hb t _ h1
  exact .inr (.inr ⟨c2,h3,h2⟩)
 | .pa t r i a o,p,h=>by
  obtain⟨rfl,dO⟩:=h;refine⟨_,rfl,?_⟩;rcases dO with⟨l,h1,h2⟩|h1
  ·exact .inl ⟨r,l,hb t _ h1,by rw[h2];rfl⟩
  exact .inr (hb t _ h1)
 | .pb t i o,p,h=>by
  obtain⟨e,rfl,dO⟩:=h;refine⟨e,rfl,?_⟩;rcases dO with⟨r,l,h1,h2⟩|h1
  ·exact .inl ⟨r,l,hb t _ h1,h2⟩
  exact .inr (hb t _ h1)
theorem A2{g:Nat->Nat}{s s2:List SB}(hb:af1 g s s2): ∀{v:List SV} {p:List PV},RL s v p->RL s2 (H8 g v) (BK g p)
 | [],p,h=>by rw[show p=_ from h];rfl
 |x::xs,p,h=>by obtain⟨a,as,rfl,h1,h2⟩:=h.cons_inv;exact RL.cons (U' hb h1) (A2 hb h2)
end
theorem Kl: ∀{a b:di},(∀(t:Nat) (x:ox),a[t]? =aeg x-> ∃y,b[t]? =aeg y/\x.cu=y.cu)->AD a b=aej
 | [],b,_=>by cases b<;>rfl
 |x::a,[],h=>by obtain⟨y,hy,_⟩:=h 0 x rfl;simp at hy
 |x::a,y::b,h=>by obtain⟨y',h1,h2⟩:=h 0 x rfl;simp at h1;subst h1;have:=Kl (λt x hx=>by simpa using h (t+1) x (by simpa using hx));simp[AD,this,h2];cases y.cu<;>rfl
section
variable {F : qo} {R' ρ : Type} {w : R' -> ρ} {y : ρ} {s : List SB} {ps : di} {z : List Nat}
theorem Va{f:FuncId}{tk:List Nat}{Ta vs:List SV}{s0:List SB}{k:XRS->js R'}(hS:de s ps){pas:List PV}(hv:RL s Ta pas)(LM:tk=vz (fb (gN ps deep) pas))(hz:(tk.all λt=>!has z t)=aej)
 (h1:yz tk Ta=aeg vs) (h2:LX s tk tk=aeg s0):
 ∀{l:List fB},(∀c∈l,jY F f c)->fpS f (aef s) tk vs s0 k l ρ w=aeg y-> ∃sr pr,(∃n,y9 (run F n) f pas ps z=aeg pr)/\Good s ps sr pr/\k (.loc sr) ρ w=aeg y
 | [],_,h=>by cases h
 |c::l,hl,h=>by
  have next:fpS f (aef s) tk vs s0 k l ρ w=aeg y-> ∃sr pr,(∃n,y9 (run F n) f pas ps z=aeg pr)/\Good s ps sr pr/\k (.loc sr) ρ w=aeg y:=
   λh=>Va hS hv LM hz h1 h2 (λc hc=>hl c (abS _ hc)) h
  simp only[fpS]at h;cases Ay:(Cy c.ta vs&&JZ c.tb s0)with
  |false=>grind
  |true=>
   rw[Ay]at h;simp only[v6]at h;cases hpo:oR c.ka (G2 vs++Oj s0)with
   |none=>simp_all
   |some a=>
    rw[hpo]at h;obtain⟨b,hb,h3⟩:=dz h;simp only[If]at Ay;have LL:=uq hpo;have hva:c.va a=vs:=by unfold fB.va;rw[LL,sj _ Ay.1]
    have hsa:c.sa a=s0:=by
     unfold fB.sa;rw[LL,sj _ Ay.1];have:=FT [] Ay.2
     grind
    have LQ:Ke tk s s0:=by have:=Ke.of (l:=[]) h2;grind
    obtain⟨pa',a1,a2⟩:=yD LQ hv h1;obtain⟨p0,b1,b2,b3⟩:=G6 hS LQ h2;have Pr:de s0 p0:=⟨b2,b3⟩;obtain⟨ajm,ajn⟩:=CD h2;obtain⟨n,v,sr,r1,r2,r3,r4,r5,r6⟩:=hl c (abN ..) a b pa' p0 hb (by grind) (by grind);rw[hsa]at r2 r4 r5 r6;have LN:tk.Nodup:=by rw[LM];exact yw
    have V': ∀t∈tk,t<(aef s):=λt ht=>by
     obtain⟨j,hj,he⟩:=abU ht;obtain⟨x,c',d1,_,_⟩:=ajn j t (by rw[PP hj,he])
     grind
    have an0:(c.sb b).length=(aef tk):=by rw[r5,ajm]
    have an1:(aef tk)<=(aef sr):=by
     have:=r4.len
     grind
    have J': ∀j,j<aef tk->(sr.take (aef s0))[j]? =sr[j]?:=λj hj=>NE (by omega)
    have Yp:AD p0 sr=aej:=Kl (λt x hx=>by
     have an2:t<(aef s0):=by grind
     obtain⟨x0,N8⟩: ∃x0,s0[t]? =aeg x0:=⟨s0[t],PP an2⟩;obtain⟨q,q1,q2⟩:=b3 t x0 N8;rw[hx]at q1;injection q1 with q1;subst q1;obtain⟨y0,WC⟩: ∃y0,(c.sb b)[t]? =aeg y0:=⟨(c.sb b)[t]'(by omega),PP (by omega)⟩;obtain⟨q',q3,q4⟩:=r4.at_ t y0 WC;rw[J' t (by omega)]at q3;refine⟨q',q3,?_⟩;have Pq:=r6 t x0 y0 N8 WC;cases x0 with
     |arr r l=>cases y0 with
      |arr r' l'=>obtain⟨rfl,Fg⟩:=Pq;rw[q2,q4];cases l<;>cases l'<;>simp_all[ox.cu]
      |_=>exact Pq.elim
     |box cs=>cases y0 with
      |box Lz=>obtain⟨_,rfl,_⟩:=q2;obtain⟨_,rfl,_⟩:=q4;rfl
      |_=>exact Pq.elim
     |set l=>cases y0 with
      |set l'=>rw[q2,q4];rfl
      |_=>exact Pq.elim
     |mI p l=>cases y0 with
      |mI p' l'=>rw[q2,q4];rfl
      |_=>exact Pq.elim
     |dead=>cases y0 with
      |dead=>rw[q2,q4]
      |_=>exact Pq.elim)
    let g:=nK tk (aef s)
    have hg: ∀j t,tk[j]? =aeg t->g j=t:=λj t hj=>by show nK tk (aef s) j=t;unfold nK;rw[hj]
    obtain⟨w1,w2⟩:=MO g tk (c.sb b) an0;obtain⟨u1,u2⟩:=Kk g tk sr an1
    let s2:=IG tk (xI (Ea g tk (c.sb b)) s)
    have AN: ∀(j t:Nat) (x:SB),tk[j]? =aeg t->(c.sb b)[j]? =aeg x->s2[t]? =aeg (dgB tk (Y5 g x)):=λj t x hj hx=>by show(IG tk _)[t]? =_;rw[wT,AZ,Ha _ s j t _ (by grind) (w2 j t x hj hx) (V' t (abC hj))];rfl
    have af2: ∀(t:Nat),t∉tk->s2[t]? =(s[t]?).map (dgB tk):=λt ht=>by
     grind[wT,AZ,A0]
    have ID: ∀t∈tk,∃j,tk[j]? =aeg t:=λt ht=>by obtain⟨j,hj,he⟩:=abU ht;exact⟨j,by rw[PP hj,he]⟩
    have zd:Fr tk s s2:=λt x hx=>by
     by_cases ht:t∈tk
     ·obtain⟨j,hj⟩:=ID t ht
      have Se:=(IR.1 hj).1;obtain⟨x',c',d1,d2,d3⟩:=ajn j t hj;rw[hx]at d1;injection d1 with d1;subst d1;obtain⟨y0,WC⟩: ∃y0,(c.sb b)[j]? =aeg y0:=⟨(c.sb b)[j]'(by omega),PP (by omega)⟩;have Pq:=r6 j c' y0 d3 WC;have hs2:=AN j t y0 hj WC;cases x with
      |arr r l=>
       injection d2 with d2;subst d2;cases y0 with
       |arr r' l'=>
        obtain⟨rfl,Fg⟩:=Pq;refine .inl ⟨l',hs2,Fg,λhb=>?_⟩;exfalso;have:has tk t=aej:=by unfold has;rw[List.any_eq_true];exact⟨t,ht,by simp⟩
        rw[this]at hb;cases hb
       |_=>exact Pq.elim
      |dead=>
       injection d2 with d2;subst d2;cases y0 with
       |dead=>exact hs2
       |_=>exact Pq.elim
      |box cs=>
       simp only[SK]at d2;split at d2
       ·injection d2 with d2;subst d2
        cases y0 with
        |box c2=>exact .inl ⟨_,hs2⟩
        |_=>exact Pq.elim
       cases d2
      |_=>trivial
     have:=af2 t ht
     rw[hx]at this;cases x with
     |arr r l=>exact .inl ⟨l,this,rfl,λ_=>rfl⟩
     |dead=>exact this
     |box c2=>exact .inl ⟨_,this⟩
     |_=>trivial
    have aeN:af1 g (c.sb b) s2:=λu x hx=>by
     have hul:u<(aef tk):=by have:=(IR.1 hx).1;omega
     have hj:=PP hul;have:=AN u _ x hj hx;rw[hg u _ hj];cases x with
     |arr r l=>exact this
     |dead=>exact this
     |box cs=>exact⟨_,this⟩
     |_=>trivial
    have an3:(∃n,y9 (run F n) f pas ps z=aeg {v:=GG g v,wr:=tU g tk sr}):=by
     refine⟨n,?_⟩;unfold y9 abG;rw[<-LM,AC hz,a1,b1];dsimp only;rw[r1];dsimp only;unfold Jk;rw[AC Yp,hS.len];have:ky (aef tk) v sr=aej:=by rw[<-ajm];exact r2
     rw[AC this]
    refine⟨{v:=Qm g (c.vb b),wr:=Ea g tk (c.sb b)},_,an3,?_,h3⟩;have dd:iR.rh s {v:=Qm g (c.vb b),wr:=Ea g tk (c.sb b)}=s2:=by rw[Qy,abK,FU,w1]
    exact {
     rd:=rfl
     fr:=rfl
     wr:=by rw[FU,w1];exact u1
     nw:=MP (by rw[u1];exact LN)
     nl:=rfl
     aB:=by
      rw[dd];show de s2 (lH (tU g tk sr) ps);rw[Ie];refine⟨by rw[EP,AU,AZ,EP,hS.len],λt x hx=>?_⟩
      by_cases ht:t∈tk
      ·obtain⟨j,hj⟩:=ID t ht
       have Se:=(IR.1 hj).1;obtain⟨y0,WC⟩: ∃y0,(c.sb b)[j]? =aeg y0:=⟨(c.sb b)[j]'(by omega),PP (by omega)⟩;have hs2:=AN j t y0 hj WC;rw[hx]at hs2;injection hs2 with hs2;subst hs2;obtain⟨q',q3,q4⟩:=r4.at_ j y0 WC;rw[J' j Se]at q3;refine⟨D4 g q',Ha _ ps j t _ (by rw[u1];exact LN) (u2 j t q' hj q3) (by rw[hS.len];exact V' t ht),?_⟩;cases y0 with
       |box cs=>obtain⟨pc,rfl,hpc⟩:=q4;exact⟨_,rfl,RL.fr (Fr.refl tk s2) (A2 aeN hpc)⟩
       |arr r l=>rw[q4];rfl
       |set l=>rw[q4];rfl
       |mI p l=>rw[q4];rfl
       |dead=>rw[q4];rfl
      rw[af2 t ht,ab0]at hx
      obtain⟨x0,N8,rfl⟩:=hx;obtain⟨q,q1,q2⟩:=hS.at_ t x0 N8;exact⟨q,by rw[A0 _ ps t (by rw[u1];exact ht)];exact q1,q2.fr zd⟩
     v:=by rw[dd];exact U' aeN r3
     fra:=by rw[dd,FU,w1];exact zd}
end
end Go.Vm
/- What the typed machine makes of a function is what the logical machine runs. -/
namespace Go.Vm
section
variable {F : qo}
theorem WO.af3{o:cI}{r:List cI}{st:St}{tr:List Tr}{Q:St->List Tr->Prop}{f:FuncId}{args:List PV}
 (hw:wanted o.guard st.env=aeg aej) (iM: ∀n,BV F (run F n) st.env st.aB st.fz o.op=iQ (run F n) f args st.aB st.fz)
 (h:Ep F f args st.aB st.fz λv s z=>(WF (aef st.aB) (aef s)&&st.fz.all (has z))=aej/\WO F r {st with env:=lf o.dst v st.env,aB:=s,fz:=z} (Y4::tr) Q):
 WO F (o::r) st tr Q:=by
 obtain⟨n,v,s,z,hr,hc,hk⟩:=h;refine WO.call (.shr v s z) hw ⟨n,?_⟩ rfl hk;rw[iM];simp only[iQ,hr];rw[AC hc]
theorem WP.again{live:List _}{b:mu}{st s1:St}{Q:j7->St->Prop}(h0:norm live st=aeg s1)(h:WP F b s1 (andThen (λs=>WP F (.loop live b) s Q) Q)):WP F (.loop live b) st Q:=by
 obtain⟨m,e,s,he,hq⟩:=h;cases e with
 |normal=>
  obtain⟨k,e',s',Po,X1⟩:=hq;refine⟨max m k+1,e',s',?_,X1⟩;simp[zC]at Po ⊢;rw[oO];simp[step,h0];rw[xx (.refl _ _) (vA F (Nat.le_max_left m k)) _ _ _ he];dsimp only;split at Po
  ·rename_i e1 s1 N5
   rw[vA F (Nat.le_max_right m k) _ _ N5];exact Po
  cases Po
 |exit i=>exact⟨m+1,.exit i,s,by simp[zC];rw[oO];simp[step,h0,he],hq⟩
 |ret=>exact⟨m+1,.ret,s,by simp[zC];rw[oO];simp[step,h0,he],hq⟩
def Qz(F : qo)(inl : Inl) : Prop :=
  ∀ (f : FuncId) (args : List SV) (s : List SB) (z : List Nat) (R' : Type) (k : SV -> List SB -> List Nat -> js R') (ρ : Type) (w : R' -> ρ) (y : ρ) (pa : List PV) (ps : di) (Q : R' -> PV -> di -> List Nat -> Prop),
    RL s args pa -> de s ps -> inl f args s z R' k ρ w = aeg y ->
    (∀ v s' z' p CG B7 (w' : R' -> B7) y', R s' v p -> de s' CG -> k v s' z' B7 w' = aeg y' -> ∃ r, y' = w' r /\ Q r p CG z') ->
    ∃ r, y = w r /\ Ep F f pa ps z (λp CG z' => Q r p CG z')
def Vb:SB->SB->Prop
 | .arr r l,b=>(∃l',b= .arr r l'/\aef l'=aef l)\/b= .dead
 | .dead,b=>b= .dead
 | .box _,b=>(∃cs,b= .box cs)\/b= .dead
 |_,_=>True
theorem FV{R' ρ:Type}{w:R'->ρ}{y:ρ}: ∀{s s':List SB} {k:js R'},wS s s' k ρ w=aeg y->k ρ w=aeg y/\aef s<=aef s'/\
 ∀(t:Nat) (b:SB),s[t]? =aeg b-> ∃b',s'[t]? =aeg b'/\Vb b b'
 | [],s',k,h=>⟨by cases s'<;>exact h,Nat.zero_le _,λt b ht=>by simp at ht⟩
 |x::xs,[],k,h=>by cases h
 |x::xs,y'::ys,k,h=>by
  have step: ∀(_:wS xs ys k ρ w=aeg y) (_:Vb x y'),k ρ w=aeg y/\(x::xs).length<=(y'::ys).length/\ ∀(t:Nat) (b:SB),(x::xs)[t]? =aeg b-> ∃b',(y'::ys)[t]? =aeg b'/\Vb b b':=by
   intro h hx;obtain⟨h1,h2,h3⟩:=FV h
   grind
  cases x with
  |arr r l=>
   cases y' with
   |arr q m=>obtain⟨hr,h2⟩:=dm h;obtain⟨hl,h3⟩:=kF h2;have:=Ct hr;subst this;exact step h3 (.inl ⟨m,rfl,by simpa using hl⟩)
   |dead=>exact step h (.inr rfl)
   |_=>cases h
  |dead=>
   cases y' with
   |dead=>exact step h rfl
   |_=>cases h
  |box cs=>
   cases y' with
   |box c2=>exact step h (.inl ⟨c2,rfl⟩)
   |dead=>exact step h (.inr rfl)
   |_=>cases h
  |set l=>exact step h trivial
  |mI p l=>exact step h trivial
theorem Zy{n t:Nat}(h:t<n):has (zG n) t=aej:=by
 induction n with
 |zero=>omega
 |succ n ih=>
  unfold has at ih ⊢;simp only[zG,];rcases ac3 t n with h1|h1
  ·grind
  have:t=n:=by omega
  simp_all
theorem Tb{s s':List SB}(h: ∀(t:Nat) (b:SB),s[t]? =aeg b-> ∃b',s'[t]? =aeg b'/\Vb b b'):Fr (zG (aef s)) s s':=λt b hb=>by
 obtain⟨b',h1,h2⟩:=h t b hb;cases b with
 |arr r l=>
  rcases h2 with⟨l',rfl,h3⟩|rfl
  ·grind[Zy]
  exact .inr h1
 |dead=>rw[h2]at h1;exact h1
 |box cs=>
  rcases h2 with⟨c2,rfl⟩|rfl
  ·grind
  exact .inr h1
 |_=>trivial
theorem ajo{s:List SB}{ps:di}{sr:iR}{pr:rQ}(G:Good s ps sr pr)(hS:de s ps):(XR.loc pr).tr (aef ps)=sr.tr (aef s):=by
 simp only[XR.tr,iR.tr,G.rd,G.fr,hS.len,<-G.wr,G.nl,aec];have:pr.news.isEmpty=sr.news.isEmpty:=by have:=G.nl;cases h1:pr.news<;>cases h2:sr.news<;>simp_all
 rw[this];rfl
theorem af4{st:ua}{p:St}(h:Dv st p){sr:iR}{pr:rQ}(G:Good st.aB p.aB sr pr)(d:Option Nat):Dv (sr.next d st) ((XR.loc pr).next d p):=by
 have acH: ∀{s:List SB} {e:SE} {pe:Env} {v:SV} {q:PV},eS s e pe->R s v q->eS s (Om d v e) (lf d q pe):=by
  intro s e pe v q he hv;cases d with
  |none=>exact he
  |some t=>exact⟨q,pe,rfl,hv,he⟩
 have hs:=Qy st.aB sr;unfold iR.next
 split
 ·rename_i hw
  rw[hw]at hs;simp[FH,Oz]at hs;have AI:=G.aB;have hv:=G.v;have zd:=G.fra;rw[hs]at AI hv zd;rw[hw]at zd;exact⟨by simp[qg];exact acH (eS.ext zd h.env) hv,by simp[qg];exact AI,by simp[XR.next,G.fr,h.fz],h.kn⟩
 have AI:=G.aB
 have hv:=G.v;have zd:=G.fra;rw[hs]at AI hv zd;exact⟨by simp[qg];exact acH (eS.fr zd h.env) hv,by simp[qg];exact AI,by simp[XR.next,G.fr,h.fz],h.kn⟩
theorem ok_eq{s:List SB}{ps:di}{sr:iR}{pr:rQ}(G:Good s ps sr pr){z:List Nat}(h:sr.ok z=aej):(XR.loc pr).ok z=aej:=by simp only[XR.ok,G.nw,adu];unfold iR.ok at h;rw[<-G.wr,aec]at h;exact h
section
variable {cx : Ctx} {inl : Inl} {R' : Type}
def an5(_F:qo)(k:ua->List Tr->js R')(Q:R'->St->List Tr->Prop):Prop:=
 ∀st p tr ρ (w:R'->ρ) y,Dv st p->k st tr ρ w=aeg y-> ∃r,y=w r/\Q r p tr
theorem A3{o:cI}{l:List cI}{st:ua}{p:St}{tr:List Tr}{k:ua->List Tr->js R'}{ρ:Type}{w:R'->ρ}{y:ρ}{Q:R'->St->List Tr->Prop}
 (hl: ∀st p tr ρ (w:R'->ρ) y,Dv st p->k st tr ρ w=aeg y-> ∃r,y=w r/\WO F l p tr (Q r)) (h:Dv st p) {sr:iR} {pr:rQ} (hw:wanted o.guard p.env=aeg aej)
 (hx: ∃n,BV F (run F n) p.env p.aB p.fz o.op=aeg (.loc pr)) (G:Good st.aB p.aB sr pr) (hg:XW o.dst st tr k (.loc sr) ρ w=aeg y): ∃r,y=w r/\WO F (o::l) p tr (Q r):=by
 obtain⟨nE,hg⟩:=dm hg;rw[Og]at hg;have hR:=af4 h G o.dst;obtain⟨r,hr,hwo⟩:=hl _ _ _ _ _ _ hR hg;refine⟨r,hr,WO.call _ hw hx (by rw[h.fz];exact ok_eq G nE) ?_⟩;rw[ajo G h.aB];exact hwo
theorem QA(IH:ur F cx)(OA:Qz F inl){o:cI}{l:List cI}{st:ua}{p:St}{tr:List Tr}{k:ua->List Tr->js R'}{ρ:Type}{w:R'->ρ}{y:ρ}{Q:R'->St->List Tr->Prop}
 (hl: ∀st p tr ρ (w:R'->ρ) y,Dv st p->k st tr ρ w=aeg y-> ∃r,y=w r/\WO F l p tr (Q r)) (h:Dv st p) (hw:wanted o.guard p.env=aeg aej)
 (hg:ME cx inl st.env st.aB st.fz o.op (XW o.dst st tr k) ρ w=aeg y): ∃r,y=w r/\WO F (o::l) p tr (Q r):=by
 have hS:=h.aB;have hE:=h.env;have shr: ∀(f:FuncId) (Ta:List SV) (pas:List PV),RL st.aB Ta pas->(∀n,BV F (run F n) p.env p.aB p.fz o.op=iQ (run F n) f pas p.aB p.fz)->
  inl f Ta st.aB st.fz R' (λv s' z'=>XW o.dst st tr k (.shr v s' z')) ρ w=aeg y-> ∃r,y=w r/\WO F (o::l) p tr (Q r):=by
  intro f Ta pas hv iM hi;obtain⟨r,hr,hd⟩:=OA f Ta st.aB st.fz R' _ ρ w y pas p.aB (λr v s z=>(WF (aef p.aB) (aef s)&&p.fz.all (has z))=aej/\WO F l {p with env:=lf o.dst v p.env,aB:=s,fz:=z} (Y4::tr) (Q r)) hv hS hi
   (λv s' z' pv CG B7 w' y' hR hS' hk=>by
    unfold XW at hk;dsimp only at hk;rw[Og]at hk;obtain⟨hk,eX,aee⟩:=FV hk;obtain⟨hz,hk⟩:=dm hk;have zd:=Tb aee;have acH:eS s' (Om o.dst v (dgE (zG (aef st.aB)) st.env)) (lf o.dst pv p.env):=by
     cases o.dst with
     |none=>exact eS.fr zd hE
     |some t=>exact⟨pv,p.env,rfl,hR,eS.fr zd hE⟩
    have hR':Dv {env:=Om o.dst v (dgE (zG (aef st.aB)) st.env),aB:=s',fz:=z',kn:=st.kn} {p with env:=lf o.dst pv p.env,aB:=CG,fz:=z'}:=⟨acH,hS',rfl,h.kn⟩;obtain⟨r,hr,hwo⟩:=hl _ _ _ _ _ _ hR' hk;refine⟨r,hr,?_,hwo⟩;rw[h.fz,hz,adu,hS.len,hS'.len];simpa using eX)
  refine⟨r,hr,WO.af3 hw iM ?_⟩;rw[h.fz];rw[h.fz]at hd;exact hd
 have loc: ∀{k':iR->js R'},qK st.env st.aB st.fz o.op k' ρ w=aeg y->GZ o.op=aek->(∀sr,k' sr=XW o.dst st tr k (.loc sr))-> ∃r,y=w r/\WO F (o::l) p tr (Q r):=by intro k' hv hc hk;obtain⟨sr,pr,h1,G,h2⟩:=acD hE hS hv;rw[hk]at h2;exact A3 hl h hw ⟨0,by rw[Od hc,h.fz,h1];rfl⟩ G h2
 generalize iM:o.op=op at hg;cases op with
 |call m f args=>
  have qW:=Dw hE args;simp[ME]at hg;cases m with
  |pur=>
   dsimp only at hg;cases hx:xG st.aB (nX st.aB deep) (mU st.env args)with
   |none=>rw[hx]at hg;cases hg
   |some vs=>rw[hx]at hg;obtain⟨q,h1,h2⟩:=zk hS (I0 hS deep) qW hx;obtain⟨sr,pr,⟨n,h3⟩,G,h4⟩:=CF (z:=st.fz) hS h1 h2 (Ec hS (Ka hS deep) qW hx) (λc hc=>IH.con f c hc) hg;exact A3 hl h hw ⟨n,by rw[iM,h.fz];simp only[BV,h3];rfl⟩ G h4
  |own=>
   dsimp only at hg;cases hx:xG st.aB (nX st.aB deep) (mU st.env args)with
   |none=>rw[hx]at hg;cases hg
   |some vs=>rw[hx]at hg;obtain⟨q,h1,h2⟩:=zk hS (I0 hS deep) qW hx;obtain⟨sr,pr,⟨n,h3⟩,G,h4⟩:=CF (z:=st.fz) hS h1 h2 (Ec hS (Ka hS deep) qW hx) (λc hc=>IH.con f c hc) hg;exact A3 hl h hw ⟨n,by rw[iM,h.fz];simp only[BV,h3];rfl⟩ G h4
  |shr=>exact shr f _ _ qW (λn=>by rw[iM];rfl) hg
  |fp=>
   dsimp only at hg;cases hx:SH st.aB (nX st.aB deep) (mU st.env args)with
   |false=>rw[hx]at hg;cases hg
   |true=>
    rw[hx]at hg;dsimp only at hg;obtain⟨hz,hg⟩:=dm hg;cases h1:yz (vz (wP (B2 st.aB deep) (mU st.env args))) (mU st.env args)with
    |none=>rw[h1]at hg;cases hg
    |some vs=>
     cases h2:LX st.aB (vz (wP (B2 st.aB deep) (mU st.env args))) (vz (wP (B2 st.aB deep) (mU st.env args)))with
     |none=>rw[h1,h2]at hg;cases hg
     |some s0=>rw[h1,h2]at hg;obtain⟨sr,pr,⟨n,h3⟩,G,h4⟩:=Va hS qW (by grind[Zp,Ka]) hz h1 h2 (λc hc=>IH.fpc f c hc) hg;exact A3 hl h hw ⟨n,by rw[iM,h.fz];simp only[BV,h3];rfl⟩ G h4
 |BJ x args=>
  have qW:=Dw hE args;simp only[ME]at hg;have hx:=eO hE x;generalize cH st.env x=v at hg hx;cases v with
  |fE f a b=>
   dsimp only at hg;obtain⟨pa,pb,hx,ha,hb⟩:=hx;have an6: ∀{vs:List SV} {q:List PV},RL st.aB vs q->(EH vs=aej->q.any Jj=aej):=by
    intro vs
    induction vs with
    |nil=>intro q _ h;cases h
    |cons v vs ih=>
     intro q hq hp;obtain⟨a,as,rfl,h1,h2⟩:=hq.cons_inv;simp[EH,Bool.or_eq_true]at hp;simp;rcases hp with hp|hp
     ·left
      cases v with
      |own _ _=>obtain⟨_,_,rfl,_⟩:=h1;rfl
      |pre _ _ _ _=>obtain⟨_,rfl,_⟩:=h1;rfl
      |part _ _ _ _ _=>obtain⟨_,rfl,_⟩:=h1;rfl
      |pa _ _ _ _ _=>obtain⟨rfl,_⟩:=h1;rfl
      |pb _ _ _=>obtain⟨_,rfl,_⟩:=h1;rfl
      |bp _ _ _|bs _ _ _ _|bq _ _ _ _=>rw[h1];rfl
      |mp _=>rw[h1];rfl
      |_=>cases hp
     grind
   cases hp:EH (mU st.env args++b)with
   |true=>rw[hp]at hg;have:=an6 (qW.append hb) hp;exact shr f _ _ ((ha.append qW).append hb) (λn=>by rw[iM];simp only[BV,hx,this,if_true]) hg
   |false=>
    rw[hp]at hg;simp only[ww]at hg;cases hxx:xG st.aB (nX st.aB deep) (a++mU st.env args++b)with
    |none=>rw[hxx]at hg;cases hg
    |some vs=>
     rw[hxx]at hg;have hno: ∀{vs u:List SV} {q:List PV},RL st.aB vs q->EH vs=aek->xG st.aB (nX st.aB deep) vs=aeg u->q.any Jj=aek:=by
      intro vs
      induction vs with
      |nil=>intro u q hq _ _;rw[hq];rfl
      |cons v vs ih=>
       intro u q hq hp hu;obtain⟨a,as,rfl,h1,h2⟩:=hq.cons_inv;simp only[EH,Bool.or_eq_false_iff]at hp;simp only[xG]at hu;split at hu
       ·rename_i y1 y2 e1 e2
        simp only[List.any_cons,ih h2 hp.2 e2,Bool.or_false];cases v with
        |agg _|cV _|bZ _ _=>obtain⟨_,rfl,_⟩:=h1;rfl
        |fE _ _ _=>obtain⟨_,_,rfl,_⟩:=h1;rfl
        |int _ _|bool _|str _|fv|sl _ _|nil _ _|undef|nD=>rw[h1];rfl
        |jX=>cases e1
        |own _ _|pre _ _ _ _|part _ _ _ _ _|pa _ _ _ _ _|pb _ _ _|bp _ _ _|bs _ _ _ _|bq _ _ _ _|mp _=>cases hp.1
       cases hu
     have af5: ∃u2,xG st.aB (nX st.aB deep) (mU st.env args++b)=aeg u2:=by
      have: ∀(l:List SV) {m u:List SV},xG st.aB (nX st.aB deep) (l++m)=aeg u-> ∃u2,xG st.aB (nX st.aB deep) m=aeg u2:=by
       intro l
       induction l with
       |nil=>intro m u h;exact⟨u,h⟩
       |cons x l ih=>
        intro m u h;simp only[List.cons_append,xG]at h;split at h
        ·rename_i e1 e2;exact ih e2
        cases h
      rw[abu]at hxx;exact this a hxx
     obtain⟨u2,hu2⟩:=af5;have an7:=hno (qW.append hb) hp hu2;have wN:=(ha.append qW).append hb;obtain⟨q,h1,h2⟩:=zk hS (I0 hS deep) wN hxx;obtain⟨sr,pr,⟨n,h3⟩,G,h4⟩:=CF (z:=st.fz) hS h1 h2 (Ec hS (Ka hS deep) wN hxx) (λc hc=>IH.con f c hc) hg;exact A3 hl h hw ⟨n,by rw[iM,h.fz];simp only[BV,hx,an7,abM,if_false,h3];rfl⟩ G h4
  |_=>cases hg
 |_=>exact loc (by rw[iM];exact hg) (by rw[iM];rfl) (λ_=>rfl)
theorem A5(IH:ur F cx)(OA:Qz F inl): ∀(ops:List cI) {st:ua} {p:St} {tr:List Tr} {k:ua->List Tr->js R'} {ρ:Type} {w:R'->ρ} {y:ρ} {Q:R'->St->List Tr->Prop},
 an5 F k Q->Dv st p->ud cx inl ops st tr k ρ w=aeg y-> ∃r,y=w r/\WO F ops p tr (Q r)
 | [],st,p,tr,k,ρ,w,y,Q,hk,h,he=>by
  obtain⟨r,hr,hq⟩:=hk st p tr ρ w y h he
  grind[WO.nil]
 |o::l,st,p,tr,k,ρ,w,y,Q,hk,h,he=>by
  have hl: ∀st p tr ρ (w:R'->ρ) y,Dv st p->ud cx inl l st tr k ρ w=aeg y-> ∃r,y=w r/\WO F l p tr (Q r):=λst p tr ρ w y h he=>A5 IH OA l hk h he
  have FW: ∀{st:ua} {c:Nat} {v:SV},Dv st p->R st.aB v (lk c p.env)->Dv {st with env:=ED c v st.env} p:=λh hv=>⟨h.env.ED hv,h.aB,h.fz,h.kn⟩
  have af6: ∀{st:ua},Dv st p->wanted o.guard p.env=aeg aej->(match o.op with
   | .pick (.t c) a b=>match H3 c st.env with
    | .bool x=>jx x (XW o.dst {st with env:=ED c (.bool aej) st.env} tr (ud cx inl l · · k) (.loc {v:=cH st.env a}))
     (XW o.dst {st with env:=ED c (.bool aek) st.env} tr (ud cx inl l · · k) (.loc {v:=cH st.env b}))
    |_=>aU
   |op=>ME cx inl st.env st.aB st.fz op (XW o.dst st tr (ud cx inl l · · k))) ρ w=aeg y-> ∃r,y=w r/\WO F (o::l) p tr (Q r):=by
   intro st h hw he;have plain:ME cx inl st.env st.aB st.fz o.op (XW o.dst st tr (ud cx inl l · · k)) ρ w=aeg y-> ∃r,y=w r/\WO F (o::l) p tr (Q r):=λhe=>QA IH OA hl h hw he
   generalize iM:o.op=op at he;cases op with
   |pick c a b=>
    cases c with
    |c v=>grind
    |t c=>
     dsimp only at he;generalize hv:H3 c st.env=v at he;cases v with
     |bool x=>
      have hx:lk c p.env= .bool x:=by have:=h.env.lk c;rw[hv]at this;exact this
      rcases gR he with⟨rfl,he⟩|⟨rfl,he⟩
      ·have hR:=FW h (v:= .bool aej) hx
       exact A3 hl hR hw ⟨0,by rw[iM];simp only[BV,bO,ib.ev,hx];rfl⟩ (Good.val hR.aB (eO h.env a)) he
      have hR:=FW h (v:= .bool aek) hx
      exact A3 hl hR hw ⟨0,by rw[iM];simp only[BV,bO,ib.ev,hx];rfl⟩ (Good.val hR.aB (eO h.env b)) he
     |_=>cases he
   |_=>exact plain (by rw[iM];exact he)
  have Zz: ∀{st:ua},Dv st p->wanted o.guard p.env=aeg aek->ud cx inl l {st with env:=Om o.dst .nD st.env} (Tr.idle::tr) k ρ w=aeg y-> ∃r,y=w r/\WO F (o::l) p tr (Q r):=by
   intro st h hw he;have hR:Dv {st with env:=Om o.dst .nD st.env} {p with env:=lf o.dst .nD p.env}:=by
    refine⟨?_,h.aB,h.fz,h.kn⟩;cases o.dst with
    |none=>exact h.env
    |some t=>exact⟨.nD,p.env,rfl,rfl,h.env⟩
   grind[WO.skip]
  simp[ud]at he;cases R7:o.guard with
  |none=>rw[R7]at he;exact af6 h (by rw[R7];rfl) he
  |some g=>
   obtain⟨c,want⟩:=g;rw[R7]at he;dsimp only at he;generalize hv:H3 c st.env=v at he;cases v with
   |bool x=>
    have hx:lk c p.env= .bool x:=by have:=h.env.lk c;rw[hv]at this;exact this
    have hwx: ∀b,x=b->wanted o.guard p.env=aeg (b==want):=λb hb=>by rw[R7];simp[wanted,hx,hb]
    cases want with
    |true=>
     simp[v6]at he;rcases gR he with⟨rfl,he⟩|⟨rfl,he⟩
     ·exact af6 (FW h (v:= .bool aej) hx) (hwx aej rfl) he
     exact Zz (FW h (v:= .bool aek) hx) (hwx aek rfl) he
    |false=>
     simp[ww]at he;rcases gR he with⟨rfl,he⟩|⟨rfl,he⟩
     ·exact Zz (FW h (v:= .bool aej) hx) (hwx aej rfl) he
     exact af6 (FW h (v:= .bool aek) hx) (hwx aek rfl) he
   |nD=>
    have hx:lk c p.env= .nD:=by have:=h.env.lk c;rw[hv]at this;exact this
    exact Zz h (by rw[R7];simp[wanted,hx]) he
   |_=>cases he
theorem Km{e:SE}: ∀{ig:List Nat} {k:SE->js R'} {ρ:Type} {w:R'->ρ} {y:ρ},Qn e ig k ρ w=aeg y->k (ig.map λs=>(s,H3 s e)) ρ w=aeg y
 | [],k,ρ,w,y,h=>h
 |s::r,k,ρ,w,y,h=>by simp[Qn]at h;rw[Og]at h;have:=Km h;exact this
theorem ZA{s:List SB}{e:SE}{pe:Env}(h:eS s e pe): ∀(ig:List Nat),eS s (ig.map λt=>(t,H3 t e)) (ig.map λt=>(t,lk t pe))
 | []=>rfl
 |t::r=>⟨_,_,rfl,h.lk t,ZA h r⟩
end
mutual
theorem MQ: ∀(v:SV) (q:List B6),zj v (G1 v++q)=(v,q)
 | .jX,q| .undef,q| .nD,q| .fv,q| .int _ _,q| .bool _,q| .str _,q| .sl _ _,q| .nil _ _,q| .own _ _,q| .pre _ _ _ _,q| .part _ _ _ _ _,q| .pa _ _ _ _ _,q| .pb _ _ _,q| .bp _ _ _,q| .bs _ _ _ _,q| .bq _ _ _ _,q| .mp _,q=>rfl
 | .agg cs,q=>by simp only[zj,G1,xm]
 | .cV cs,q=>by simp only[zj,G1,xm]
 | .bZ cs o,q=>by simp only[zj,G1,xm]
 | .fE f a b,q=>by simp only[zj,G1,abu,xm]
theorem xm: ∀(v:List SV) (q:List B6),wR v (G2 v++q)=(v,q)
 | [],q=>rfl
 |x::xs,q=>by simp only[wR,G2,abu,MQ,xm]
end
theorem MR: ∀(v:List SB) (q:List B6),EG v (Oj v++q)=(v,q)
 | [],q=>rfl
 |x::xs,q=>by
  have: ∀q,SM x (Y0 x++q)=(x,q):=by intro q;cases x<;>first|rfl|simp[SM,Y0,xm]
  simp[EG,Oj,this,MR]
theorem MS: ∀(v:SE) (q:List B6),Ql v (Wq v++q)=(v,q)
 | [],q=>rfl
 |(t,x)::xs,q=>by simp[Ql,Wq,MQ,MS]
theorem Tc(st:ua):zY st (si st)=st:=by have hs:=MR st.aB [];rw[abK]at hs;simp[zY,si,MS,hs]
theorem aeO{β:Type 1}: ∀(l:List PT) (c:List PT->β),rK l c=c l
 | [],_=>rfl
 |p::r,c=>by cases p<;>simp[rK,ptK,aeO r]
theorem Td{β:Type 1}: ∀(l:List AK) (c:List AK->β),ksK l c=c l
 | [],_=>rfl
 |a::r,c=>by cases a<;>simp[ksK,aeO,Td r]
theorem aeP{s:List SB}{o:SE}: ∀{e:SE} {pe:Env},eS s e pe->eS s (jnE o e) pe
 | [],_,h=>h
 |(t,v)::r,_,⟨p,q,h1,h2,h3⟩=>⟨p,q,h1,by cases H3 t o<;>first|exact h2|trivial,aeP h3⟩
theorem WD{cx:Ctx}{inl:Inl}(IH:ur F cx)(OA:Qz F inl): ∀(c:mu) (R':Type) {st:ua} {p:St} {k:j7->ua->js R'} {ρ:Type} {w:R'->ρ} {y:ρ} {Q:R'->j7->St->Prop},
 (∀e st p ρ (w:R'->ρ) y,Dv st p->k e st ρ w=aeg y-> ∃r,y=w r/\Q r e p)->Dv st p->Cz cx inl c R' st k ρ w=aeg y-> ∃r,y=w r/\WP F c p (Q r):=by
 intro c
 induction c with
 |skip=>
  intro R' st p k ρ w y Q hk h he;obtain⟨r,hr,hq⟩:=hk _ _ _ _ _ _ h he
  grind[WP.skip]
 |ret=>
  intro R' st p k ρ w y Q hk h he;obtain⟨r,hr,hq⟩:=hk _ _ _ _ _ _ h he
  grind[WP.ret]
 |exit id=>
  intro R' st p k ρ w y Q hk h he;obtain⟨r,hr,hq⟩:=hk _ _ _ _ _ _ h he
  grind[WP.exit]
 |region d ops ig=>
  intro R' st p k ρ w y Q hk h he;simp[Cz]at he;have fin: ∀st p ρ (w:R'->ρ) y,Dv st p->Qn st.env ig (λe=>k .normal {st with env:=e}) ρ w=aeg y-> ∃r,y=w r/\Q r .normal (xy ig p):=by
   intro st p ρ w y h he;have:=Km he;have hR:Dv {st with env:=ig.map λt=>(t,H3 t st.env)} (xy ig p):=⟨ZA h.env ig,h.aB,h.fz,h.kn⟩
   grind
  cases d with
  |none=>
   obtain⟨r,hr,hwo⟩:=A5 IH OA ops (λst p tr ρ w y h he=>fin st p ρ w y h he) h he
   grind[WP.region]
  |some bf=>
   obtain⟨r,hr,hwo⟩:=A5 IH OA ops (Q:=λr s t=>wJ 0 (t.reverse.zip bf)=aej/\Q r .normal (xy ig s)) (λst p tr ρ w y h he=>by
    dsimp only at he;cases ho:wJ 0 (tr.reverse.zip bf)with
    |false=>rw[ho]at he;cases he
    |true=>rw[ho]at he;obtain⟨r,hr,hq⟩:=fin st p ρ w y h he;exact⟨r,hr,ho,hq⟩) h he
   grind[WP.abH]
 |seq a b iha ihb=>
  intro R' st p k ρ w y Q hk h he;simp[Cz]at he;cases hj:cx.jn&&jnC a with
  |false=>
   rw[hj]at he;obtain⟨r,hr,R8⟩:=iha R' (Q:=λr=>andThen (λs=>WP F b s (Q r)) (Q r)) (λe st p ρ w y h he=>by
    cases e with
    |normal=>exact ihb R' hk h he
    |exit i=>exact hk _ _ _ _ _ _ h he
    |ret=>exact hk _ _ _ _ _ _ h he) h he
   grind[WP.seq]
  |true=>
   rw[hj]at he;dsimp only at he;rw[Td]at he;generalize Y1 (si (Wr st.env (jnK a) st))=ks at he;generalize Wr st.env (jnK a) st=s1 at he;cases hp:oR ks (si s1)with
   |none=>rw[hp]at he;cases he
   |some y0=>
    rw[hp]at he;dsimp only at he;obtain⟨n,LZ⟩:=Qh he;clear he;have body: ∀zr,Cz cx inl a (Step (Bool×kE ks) ρ) st (λe BW=>match e with
     | .normal=>bif EF s1 {BW with env:=jnE st.env BW.env}then(match oR ks (si {BW with env:=jnE st.env BW.env})with
      |some y'=>H5 (.next (aek,y'))
      |none=>aU)else aU
     |e=>λB7 w'=>k e BW B7 λr=>w' (.done (w r))) (Step (Bool×kE ks) ρ) (λz=>z)=aeg zr->
     WP F a p (λe s=>match zr with
      | .next y'=>e= .normal/\y'.1=aek/\Dv (zY s1 (qc ks y'.2)) s
      | .done x=>e≠ .normal/\ ∃r,x=w r/\Q r e s):=by
     intro zr qZ;obtain⟨zr',R0,R8⟩:=iha (Step (Bool×kE ks) ρ) (Q:=λzr e s=>match zr with
      | .next y'=>e= .normal/\y'.1=aek/\Dv (zY s1 (qc ks y'.2)) s
      | .done x=>e≠ .normal/\ ∃r,x=w r/\Q r e s) (λe BW p2 B7 w' y2 h2 BN=>by
      cases e with
      |normal=>
       dsimp only at BN;obtain⟨Ay,BN⟩:=dm BN;cases hp3:oR ks (si {BW with env:=jnE st.env BW.env})with
       |none=>rw[hp3]at BN;cases BN
       |some y3=>rw[hp3]at BN;injection BN with BN;refine⟨.next (aek,y3),BN.symm,rfl,rfl,?_⟩;dsimp only;rw[uq hp3,MM Ay];exact⟨aeP h2.env,h2.aB,h2.fz,h2.kn⟩
      |exit i=>obtain⟨r,hr,hq⟩:=hk _ _ _ _ _ _ h2 BN;exact⟨.done (w r),hr,(by intro e;cases e),r,rfl,hq⟩
      |ret=>obtain⟨r,hr,hq⟩:=hk _ _ _ _ _ _ h2 BN;exact⟨.done (w r),hr,(by intro e;cases e),r,rfl,hq⟩) h qZ
     grind
    cases n with
    |zero=>cases LZ
    |succ n=>
     simp[sf,jx]at LZ;split at LZ
     ·rename_i y' qZ
      obtain⟨m,e,s,dy,rfl,hy,hR3⟩:=body _ qZ;obtain⟨y1,y2⟩:=y';dsimp only at hy hR3;subst hy;cases n with
      |zero=>cases LZ
      |succ n=>
       simp[sf]at LZ;split at LZ
       ·rename_i y' Sn
        obtain⟨r,hr,_⟩:=ihb R' hk hR3 Sn;cases hr
       ·rename_i x Sn
        obtain⟨r,hr,R8⟩:=ihb R' hk hR3 Sn;injection LZ with LZ;injection hr with hr;exact⟨r,by grind,WP.seq ⟨m,.normal,s,dy,R8⟩⟩
       cases LZ
     ·rename_i x qZ
      injection LZ with LZ;obtain⟨m,e,s,dy,fo,r,hr,hq⟩:=body _ qZ;refine⟨r,by grind,WP.seq ⟨m,e,s,dy,?_⟩⟩;cases e with
      |normal=>grind
      |exit i=>exact hq
      |ret=>exact hq
     cases LZ
 |cond c a b iha ihb=>
  intro R' st p k ρ w y Q hk h he;simp[Cz]at he;have hx:=eO h.env c;generalize cH st.env c=v at he hx;cases v with
  |bool x=>
   rcases gR he with⟨rfl,he⟩|⟨rfl,he⟩
   ·obtain⟨r,hr,R8⟩:=iha R' hk h he
    exact⟨r,hr,WP.ad8 hx R8⟩
   obtain⟨r,hr,R8⟩:=ihb R' hk h he
   exact⟨r,hr,WP.ad9 hx R8⟩
  |_=>cases he
 |block id b ih=>
  intro R' st p k ρ w y Q hk h he;simp[Cz]at he;obtain⟨r,hr,R8⟩:=ih R' (Q:=λr=>inBlock id (Q r)) (λe st p ρ w y h he=>by
   cases e with
   |normal=>exact hk _ _ _ _ _ _ h he
   |ret=>exact hk _ _ _ _ _ _ h he
   |exit j=>
    dsimp only at he;cases hj:aaP j id with
    |true=>rw[hj]at he;obtain⟨r,hr,hq⟩:=hk _ _ _ _ _ _ h he;have hji:=EQ hj;exact⟨r,hr,by simpa[inBlock,hji]using hq⟩
    |false=>
     rw[hj]at he;obtain⟨r,hr,hq⟩:=hk _ _ _ _ _ _ h he;have:j≠id:=by intro e;subst e;simp at hj
     exact⟨r,hr,by simpa[inBlock,this]using hq⟩) h he
  grind[WP.block]
 |loop live b ih=>
  intro R' st p k ρ w y Q hk h he;simp[Cz]at he;cases hn:JY cx.rk live st with
  |none=>rw[hn]at he;cases he
  |some rU=>
   rw[hn]at he;dsimp only at he;rw[Td]at he;generalize Y1 (si rU)=ks at he;cases hp:oR ks (si rU)with
   |none=>rw[hp]at he;cases he
   |some y0=>
    rw[hp]at he;dsimp only at he;obtain⟨p1,hp1,hR1⟩:=U8 h hn;have ajr: ∀(Ws:ua) (y':kE ks),EF rU Ws=aej->oR ks (si Ws)=aeg y'->zY rU (qc ks y')=Ws:=λWs y' h1 h2=>by rw[uq h2,MM h1]
    obtain⟨n,LZ⟩:=Qh he;have h0:Dv (zY rU (qc ks y0)) p1:=by rw[uq hp,Tc];exact hR1
    clear he hp hn h hR1
    induction n generalizing y0 p p1 with
    |zero=>cases LZ
    |succ n ihn=>
     have body: ∀zr,Cz cx inl b (Step (kE ks) ρ) (zY rU (qc ks y0)) (λe BW=>match e with
      | .normal=>match JY cx.rk live BW with
       |some Ws=>bif EF rU Ws then(match oR ks (si Ws)with
        |some y'=>H5 (.next y')
        |none=>aU)else aU
       |none=>aU
      |e=>λB7 w'=>k e BW B7 λr=>w' (.done (w r))) (Step (kE ks) ρ) (λz=>z)=aeg zr->
      WP F b p1 (λe s=>match zr with
       | .next y'=>e= .normal/\ ∃p3,norm live s=aeg p3/\Dv (zY rU (qc ks y')) p3
       | .done x=>e≠ .normal/\ ∃r,x=w r/\Q r e s):=by
      intro zr qZ;obtain⟨zr',R0,R8⟩:=ih (Step (kE ks) ρ) (Q:=λzr e s=>match zr with
       | .next y'=>e= .normal/\ ∃p3,norm live s=aeg p3/\Dv (zY rU (qc ks y')) p3
       | .done x=>e≠ .normal/\ ∃r,x=w r/\Q r e s) (λe BW p2 B7 w' y2 h2 BN=>by
       cases e with
       |normal=>
        dsimp only at BN;cases hn3:JY cx.rk live BW with
        |none=>rw[hn3]at BN;cases BN
        |some Ws=>
         rw[hn3]at BN;obtain⟨Ay,BN⟩:=dm BN;cases hp3:oR ks (si Ws)with
         |none=>rw[hp3]at BN;cases BN
         |some y3=>rw[hp3]at BN;injection BN with BN;obtain⟨p3,an9,hR3⟩:=U8 h2 hn3;exact⟨.next y3,BN.symm,rfl,p3,an9,by rw[ajr Ws y3 Ay hp3];exact hR3⟩
       |exit i=>obtain⟨r,hr,hq⟩:=hk _ _ _ _ _ _ h2 BN;exact⟨.done (w r),hr,(by intro e;cases e),r,rfl,hq⟩
       |ret=>obtain⟨r,hr,hq⟩:=hk _ _ _ _ _ _ h2 BN;exact⟨.done (w r),hr,(by intro e;cases e),r,rfl,hq⟩) h0 qZ
      subst R0;exact R8
     simp[sf]at LZ;split at LZ
     ·rename_i y' qZ
      obtain⟨m,e,s,dy,rfl,p3,hp3,hR3⟩:=body _ qZ;obtain⟨r,hr,R8⟩:=ihn y' p3 hp3 LZ hR3;exact⟨r,hr,WP.again hp1 ⟨m,.normal,s,dy,R8⟩⟩
     ·rename_i x qZ
      injection LZ with LZ;obtain⟨m,e,s,dy,fo,r,hr,hq⟩:=body _ qZ;refine⟨r,by rw[<-LZ];exact hr,WP.again hp1 ⟨m,e,s,dy,?_⟩⟩;cases e with
      |normal=>exact absurd rfl fo
      |exit i=>exact hq
      |ret=>exact hq
     cases LZ
end
end Go.Vm
/- Contracts from the typed machine. -/
namespace Go.Vm
section
variable {F : qo} {cx : Ctx} {inl : Inl}
theorem QB{s:List SB}: ∀{l:List SV} {q:List PV} (i:Nat),RL s l q->eS s (SS i l) (zJ i q)
 | [],q,i,h=>by rw[h];rfl
 |x::xs,q,i,h=>by obtain⟨a,as,rfl,h1,h2⟩:=h.cons_inv;exact⟨a,zJ _ as,rfl,h1,QB _ h2⟩
theorem ZB{st:ua}{p:St}(h:Dv st p){r:RV}{v:SV}(hr:SQ st r=aeg v): ∃q,Jl p r=aeg q/\R st.aB v q:=by
 cases r with
 |tmp t=>injection hr with hr;subst hr;exact⟨_,rfl,h.env.lk t⟩
 |cell t agg=>
  simp[SQ]at hr;have Ay:=h.env.lk t;split at hr
  ·rename_i u n off hv
   rw[hv]at Ay;rw[cT]at hr;split at hr
   ·rename_i cs dd
    obtain⟨q,h1,h2⟩:=h.aB.box dd;obtain⟨x,h3,h4⟩:=uW h2 hr;refine⟨x,?_,h4⟩;simp only[Jl,show lk t p.env=_ from Ay,p6,h1,h3];rfl
   cases hr
  ·rename_i cs off hv
   rw[hv]at Ay;obtain⟨q,h1,h2⟩:=Ay;obtain⟨x,h3,h4⟩:=uW h2 hr;refine⟨x,?_,h4⟩;simp only[Jl,h1,p6,h3];rfl
  cases hr
theorem MT{st:ua}{p:St}(h:Dv st p): ∀{l:List RV} {vs:List SV},Du st l=aeg vs-> ∃q,rT p l=aeg q/\RL st.aB vs q
 | [],vs,hr=>by injection hr with hr;subst hr;exact⟨[],rfl,rfl⟩
 |r::l,vs,hr=>by
  simp[Du]at hr;split at hr
  ·rename_i v RZ h1 h2
   injection hr with hr;subst hr;obtain⟨q,h3,h4⟩:=ZB h h1;obtain⟨qs,h5,h6⟩:=MT h h2;exact⟨q::qs,by simp[rT,h3,h5],RL.cons h4 h6⟩
  cases hr
theorem QC{s:List SB}{vs:List SV}{q:List PV}(h:RL s vs q):R s (G3 vs) (results1 q):=by
 match vs,q,h with
 | [],q,h=>rw[h];exact⟨[],rfl,rfl⟩
 | [v],q,h=>obtain⟨a,as,rfl,h1,h2⟩:=h.cons_inv;rw[h2];exact h1
 |v::u::r,q,h=>have wN:=h;obtain⟨a,as,rfl,h1,h2⟩:=h.cons_inv;obtain⟨b,bs,rfl,h3,h4⟩:=h2.cons_inv;exact⟨_,rfl,wN⟩
theorem CH(IH:ur F cx)(OA:Qz F inl){f:FuncId}{x:ax}(hf:F f=aeg (.code x)){R':Type}{args:List SV}{s:List SB}{z:List Nat}{k:SV->List SB->List Nat->js R'}{ρ:Type}{w:R'->ρ}{y:ρ}{pa:List PV}{ps:di}
 {Q:R'->PV->di->List Nat->Prop} (ha:RL s args pa) (hS:de s ps) (he:UX cx inl x R' args s z k ρ w=aeg y)
 (hk: ∀v s' z' p CG B7 (w':R'->B7) y',R s' v p->de s' CG->k v s' z' B7 w'=aeg y'-> ∃r,y'=w' r/\Q r p CG z'): ∃r,y=w r/\Ep F f pa ps z (λp CG z'=>Q r p CG z'):=by
 obtain⟨hn,he⟩:=dm he;have fin: ∀st p B7 (w':R'->B7) y',Dv st p->(match Du st x.res with
  |some vs=>k (G3 vs) st.aB st.fz
  |none=>aU) B7 w'=aeg y'-> ∃r,y'=w' r/\ ∃vs,rT p x.res=aeg vs/\Q r (results1 vs) p.aB p.fz:=by
  intro st p B7 w' y' h he;cases hr:Du st x.res with
  |none=>rw[hr]at he;cases he
  |some vs=>rw[hr]at he;obtain⟨q,h1,h2⟩:=MT h hr;obtain⟨r,h3,h4⟩:=hk _ _ _ _ _ _ _ _ (QC h2) h.aB he;exact⟨r,h3,q,h1,by rw[h.fz];exact h4⟩
 obtain⟨r,hr,R8⟩:=WD IH OA x.code R' (Q:=λr=>ND x λp CG z'=>Q r p CG z') (p:={env:=zJ 0 pa,aB:=ps,fz:=z,kn:=aef ps}) (λe st p B7 w' y' h he=>by
  cases e with
  |normal=>exact fin st p B7 w' y' h he
  |ret=>exact fin st p B7 w' y' h he
  |exit i=>cases he) ⟨QB 0 ha,hS,rfl,hS.len⟩ he
 exact⟨r,hr,Ep.of hf (by rw[ha.pN];exact hn) R8⟩
theorem OB{α:Type}{l m r:List α}{i:Int}(h:Dr l i m=aeg r):0<=i/\i.toNat<=aef l/\aef m=1/\aef l+1<=1048576/\r=l.take i.toNat++m++l.drop i.toNat:=by
 unfold Dr at h
 grind
theorem WE{e:Nat}{args:List SV}{s:List SB}{z:List Nat}{a:ajb}(h:acn e args s z=aeg a):
 ∃x u x2 m,args=[.own a.t x,.int .i64 a.i,.own u x2]/\nth s a.t=aeg (.arr a.r a.l)/\nth s u=aeg (.arr a.r m)/\a.m=m/\aef a.r=e/\aaP a.t u=aek/\has z a.t=aek:=by
 unfold acn at h;split at h
 case h_2=>cases h
 split at h
 case h_2=>cases h
 split at h
 case h_2=>cases h
 split at h
 case h_2=>cases h
 rename_i m' hm;cases hc:(aaP _ e&&_&&_)with
 |false=>rw[hc]at h;cases h
 |true=>rw[hc]at h;injection h with h;subst h;simp[]at hc;obtain⟨rfl,rfl⟩:=ug hm;exact⟨_,_,_,_,rfl,by assumption,by assumption,rfl,hc.1.1,hc.1.2,hc.2⟩
theorem Te{e:Nat}{f:FuncId}(hf:F f=aeg (.LD (NC e))){R':Type}{args:List SV}{s:List SB}{z:List Nat}{k:SV->List SB->List Nat->js R'}{ρ:Type}{w:R'->ρ}{y:ρ}{pa:List PV}{ps:di}
 {Q:R'->PV->di->List Nat->Prop} (ha:RL s args pa) (hS:de s ps) (he:afS e args s z k ρ w=aeg y)
 (hk: ∀v s' z' p CG B7 (w':R'->B7) y',R s' v p->de s' CG->k v s' z' B7 w'=aeg y'-> ∃r,y'=w' r/\Q r p CG z'): ∃r,y=w r/\Ep F f pa ps z (λp CG z'=>Q r p CG z'):=by
 unfold afS at he;cases hA:acn e args s z with
 |none=>rw[hA]at he;cases he
 |some a=>
 rw[hA]at he;obtain⟨l',hl,he⟩:=dz he;obtain⟨x,u,x2,m0,rfl,ht,hu,hm,he1,htu,hz⟩:=WE hA;obtain⟨t,q,l,i,m⟩:=a;dsimp only at*;subst hm he1;obtain⟨i0,il,m1,qf,rfl⟩:=OB hl;obtain⟨p0,pr0,rfl,h0,ha⟩:=ha;obtain⟨p1,pr1,rfl,h1,ha⟩:=ha;obtain⟨p2,pr2,rfl,h2,ha⟩:=ha;obtain rfl:=ha;obtain rfl:=h1;have YE:s[t]? =aeg (.arr q l):=by rw[<-cT];exact ht
 have HV:s[u]? =aeg (.arr q m):=by rw[<-cT];exact hu
 obtain⟨e0,n0,rfl,o0⟩:=h0;obtain⟨e2,n2,rfl,o2⟩:=h2;obtain⟨rfl,rfl⟩:e0=aef q/\n0=(aef l):=by
  rcases o0 with⟨r1,l1,a,b,c⟩|a
  ·rw[YE]at a;injection a with a;injection a with a1 a2;subst a1;subst a2;exact⟨b,c⟩
  grind
 obtain⟨rfl,rfl⟩:e2=aef q/\n2=(aef m):=by
  rcases o2 with⟨r1,l1,a,b,c⟩|a
  ·rw[HV]at a;injection a with a;injection a with a1 a2;subst a1;subst a2;exact⟨b,c⟩
  grind
 obtain⟨b1,PW,Tf⟩:=hS.at_ t _ YE;obtain⟨b2,Sn,af8⟩:=hS.at_ u _ HV;have af8:=af8;subst Tf af8;have eX:(IG [t] (s.set t .dead)).length=(aef s):=by rw[AU];simp
 obtain⟨L,hL⟩: ∃L,L=l.take i.toNat++m++l.drop i.toNat:=⟨_,rfl⟩;rw[<-hL]at he;have G:=Good.put hS (l:=[.arr q L]) (ql:=[.arr (aef q) (L.map (RT.pv q))]) (v:= .own (aef s) aek)
  (p:= .own (aef s) (aef q) 0 (aef L) (aef L) aek) (rd:=[]) YE (.inr rfl) rfl rfl
  (λj b hj=>by
   cases j with
   |zero=>simp at hj;subst hj;exact⟨_,rfl,rfl⟩
   |succ j=>simp at hj)
  ⟨aef q,aef L,rfl,.inl ⟨q,L,by grind,rfl,rfl⟩⟩
 have Fg:(aef L)=aef l+1:=by
  grind
 obtain⟨rr,hr,hq⟩:=hk _ _ _ _ _ _ _ _ G.v G.aB he;refine⟨rr,hr,1,_,_,_,?_,hq⟩;rw[oO];have lJ:WF (aef l+1) iq=aej:=by simp[iq];omega
 have hbl:WF i.toNat (aef l)=aej:=by simpa using il
 have hLm:L.map (RT.pv q)=(l.map (RT.pv q)).take i.toNat++m.map (RT.pv q)++(l.map (RT.pv q)).drop i.toNat:=by simp_all
 simp[step,hf,NC,PW,Sn,m1,htu,hz,i0,lJ,il,Fg,hS.len,lH,zH,hLm]
theorem WG{α:Type}{l m r:List α}(h:Wn l m=aeg r):1<=aef l+aef m/\aef l+aef m<=1048576/\r=l++m:=by
 unfold Wn at h
 grind
theorem WH{args:List SV}{s:List SB}{z:List Nat}{a:ajc}(h:aco args s z=aeg a):
 ∃cap x m,args=[.part a.t 0 2 cap x]/\nth s a.t=aeg (.box [.sl a.r a.l,.sl a.r m])/\a.m=m/\aef a.r=1/\has z a.t=aek:=by
 unfold aco at h;split at h
 case h_2=>cases h
 split at h
 case h_2=>cases h
 split at h
 case h_2=>cases h
 rename_i m' hm;cases hc:(aaP _ 1&&aaP _ 0&&aaP _ 2&&_)with
 |false=>rw[hc]at h;cases h
 |true=>rw[hc]at h;injection h with h;subst h;obtain⟨rfl,rfl⟩:=ug hm;simp_all
theorem WI{r:List PT}(h:(aef r)=1)(l:List _):AF (l.map (RT.pv r))=aej:=by
 unfold AF;rw[abw];intro x hx;obtain⟨a,_,rfl⟩:=aed.1 hx
 match r,h with
 | [p],_=>cases p<;>rfl
theorem Tg{f:FuncId}(hf:F f=aeg (.LD NA)){R':Type}{args:List SV}{s:List SB}{z:List Nat}{k:SV->List SB->List Nat->js R'}{ρ:Type}{w:R'->ρ}{y:ρ}{pa:List PV}{ps:di}
 {Q:R'->PV->di->List Nat->Prop} (ha:RL s args pa) (hS:de s ps) (he:afT args s z k ρ w=aeg y)
 (hk: ∀v s' z' p CG B7 (w':R'->B7) y',R s' v p->de s' CG->k v s' z' B7 w'=aeg y'-> ∃r,y'=w' r/\Q r p CG z'): ∃r,y=w r/\Ep F f pa ps z (λp CG z'=>Q r p CG z'):=by
 unfold afT at he;cases hA:aco args s z with
 |none=>rw[hA]at he;cases he
 |some a=>
 rw[hA]at he;obtain⟨l',hl,he⟩:=dz he;obtain⟨cap,x,m0,rfl,ht,hm,he1,hz⟩:=WH hA;obtain⟨t,q,l,m⟩:=a;subst hm;obtain⟨hp,qf,rfl⟩:=WG hl;obtain⟨p0,pr0,rfl,h0,ha⟩:=ha;obtain rfl:=ha;have YE:s[t]? =aeg (.box [.sl q l,.sl q m]):=by rw[<-cT];exact ht
 obtain⟨e0,rfl,o0⟩:=h0;obtain rfl:e0=1:=by
  rcases o0 with⟨r1,l1,a,b⟩|a|⟨_,a,b⟩
  ·grind
  ·grind
  exact b
 obtain⟨b1,PW,Tf⟩:=hS.at_ t _ YE;obtain⟨ps1,rfl,p1,q1,rfl,hp1,p2,q2,rfl,hp2,rfl⟩:=Tf;subst hp1 hp2;have eX:(IG [t] (s.set t .dead)).length=(aef s):=by rw[AU];simp
 obtain⟨L,hL⟩: ∃L,L=l++m:=⟨_,rfl⟩;rw[<-hL]at he;have G:=Good.put hS (l:=[.arr q L]) (ql:=[.arr (aef q) (L.map (RT.pv q))]) (v:= .own (aef s) aek)
  (p:= .own (aef s) (aef q) 0 (aef L) (aef L) aek) (rd:=[]) YE (.inr rfl) rfl rfl
  (λj b hj=>by
   cases j with
   |zero=>simp at hj;subst hj;exact⟨_,rfl,rfl⟩
   |succ j=>simp at hj)
  ⟨aef q,aef L,rfl,.inl ⟨q,L,by grind,rfl,rfl⟩⟩
 have Fg:(aef L)=aef l+(aef m):=by rw[hL];simp
 obtain⟨rr,hr,hq⟩:=hk _ _ _ _ _ _ _ _ G.v G.aB he;refine⟨rr,hr,1,_,_,_,?_,hq⟩;rw[oO];have lJ:WF (aef l+aef m) iq=aej:=by simp[iq];omega
 have hLm:L.map (RT.pv q)=l.map (RT.pv q)++m.map (RT.pv q):=by grind
 have hc:(aaP 1 1&&aaP 0 0&&aaP 2 2&&!has z t&&AF (l.map (RT.pv q))&&AF (m.map (RT.pv q))&&WF 1 ((l.map (RT.pv q)).length+(m.map (RT.pv q)).length)&&WF ((l.map (RT.pv q)).length+(m.map (RT.pv q)).length) iq&&(aaP (aef q) 1||(l.map (RT.pv q)).isEmpty)&&(aaP (aef q) 1||(m.map (RT.pv q)).isEmpty))=aej:=by simp_all[WI,]
 simp only[step,hf];unfold NA
 dsimp only;rw[PW];dsimp only;rw[hc];simp[hS.len,lH,zH,hLm,Fg,he1]
theorem QD: ∀(p:PT) (a:p.T),FG p (p.pv a)=aeg a
 | .i k,a=>by have:hO k k=aej:=gO.2 rfl;simp[FG,PT.pv,this]
 | .b,a=>rfl
theorem Vc: ∀(r:List PT) (a:RT r),LY r (RT.pv r a)=aeg a
 | [],a=>rfl
 | [p],a=>QD p a
 |p::q::r,a=>by
  show(match FG p _,LY (q::r) _ with
   |some a,aeg b=>aeg _
   |_,_=>aei)=_
  rw[QD,Vc _]
theorem QE(r:List PT): ∀l:List _,H7 r (l.map (RT.pv r))=aeg l
 | []=>rfl
 |a::l=>by
  show(match LY r _,H7 r _ with
   |some a,aeg l=>aeg _
   |_,_=>aei)=_
  rw[Vc,QE r l]
theorem acJ{s:List SB}{g:Option FuncId}{a:List SV}{p:List PV}(h:H9 g a=aej)(hr:RL s a p):acj g p=aej:=by
 unfold H9 at h;split at h
 ·obtain rfl:=hr
  rfl
 ·obtain⟨p0,pr,rfl,h0,hr⟩:=hr
  obtain rfl:=hr;obtain⟨x,y,rfl,hx,hy⟩:=h0;obtain rfl:=hx;obtain rfl:=hy;exact h
 cases h
theorem WJ{r:List PT}{g:Option FuncId}{args:List SV}{s:List SB}{z:List Nat}{t:Nat}{o:Option Nat}{l:List _}(h:acp r g args s z=aeg (t,o,l)):
 ∃x a,args=x::a/\nth s t=aeg (.arr r l)/\has z t=aek/\H9 g a=aej/\((o=aei/\ ∃ex,x= .own t ex)\/ ∃len cap ex,o=aeg len/\x= .pre t len cap ex):=by
 unfold acp at h;split at h
 ·split at h
  ·split at h
   ·rename_i hm
    cases hc:(!has z _&&H9 g _)with
    |false=>rw[hc]at h;cases h
    |true=>
     rw[hc]at h;simp[]at h;obtain⟨rfl,rfl,rfl⟩:=h;simp[]at hc
     grind[ug]
   cases h
  cases h
 ·split at h
  ·split at h
   ·rename_i hm
    cases hc:(!has z _&&H9 g _)with
    |false=>rw[hc]at h;cases h
    |true=>
     rw[hc]at h;simp[]at h;obtain⟨rfl,rfl,rfl⟩:=h;simp[]at hc
     grind[ug]
   cases h
  cases h
 cases h
theorem Th{α:Type}{f:List α->Option _}{l m:List α}(h:HZ f l=aeg m):(aef l)<=1048576/\f l=aeg m/\aef m=(aef l):=by
 unfold HZ at h
 grind
theorem OC{α:Type}{f:List α->Option _}{n:Nat}{l m:List α}(h:Ds f n l=aeg m):n<=aef l/\ ∃m',HZ f (l.take n)=aeg m'/\m=m'++l.drop n:=by
 unfold Ds at h;split at h
 ·rename_i hn
  cases hm:HZ f _ with
  |none=>grind
  |some m'=>
   grind
 cases h
theorem Ti{q:Srt}{f:FuncId}(hf:F f=aeg (.LD (Ol q))){R':Type}{args:List SV}{s:List SB}{z:List Nat}{k:SV->List SB->List Nat->js R'}{ρ:Type}{w:R'->ρ}{y:ρ}{pa:List PV}{ps:di}
 {Q:R'->PV->di->List Nat->Prop} (ha:RL s args pa) (hS:de s ps) (he:afU q args s z k ρ w=aeg y)
 (hk: ∀v s' z' p CG B7 (w':R'->B7) y',R s' v p->de s' CG->k v s' z' B7 w'=aeg y'-> ∃r,y'=w' r/\Q r p CG z'): ∃r,y=w r/\Ep F f pa ps z (λp CG z'=>Q r p CG z'):=by
 have key: ∀(t len:Nat) (l m':List (RT q.r)) (ex:Bool) (cap:Nat) (pr:List PV) (a:List SV),s[t]? =aeg (.arr q.r l)->has z t=aek->H9 q.g a=aej->RL s a pr->pa= .own t (aef q.r) 0 len cap ex::pr->len<=aef l->HZ q.fn (l.take len)=aeg m'->
  k (.cV []) (iR.rh s {v:= .cV [],wr:=[(t,.arr q.r (m'++l.drop len))]}) z ρ w=aeg y-> ∃r,y=w r/\Ep F f pa ps z (λp CG z'=>Q r p CG z'):=by
  intro t len l m' ex cap pr a ht hz hg har hpa eX IX he;subst hpa;obtain⟨s1,s2,s3⟩:=Th IX;obtain⟨b1,PW,Tf⟩:=hS.at_ t _ ht;have Tf:=Tf;subst Tf;have Fg:(l.take len).length=len:=by grind
  have R5:(m'++l.drop len).length=(aef l):=by grind
  have G:=Good.put hS (l:=[]) (ql:=[]) (v:= .cV []) (rd:=[]) ht (.inl ⟨_,rfl,R5⟩) rfl rfl
   (λj b hj=>by simp at hj) ⟨[],rfl,rfl⟩
  obtain⟨rr,hr,hq⟩:=hk _ _ _ _ _ _ _ _ G.v G.aB he;refine⟨rr,hr,1,_,_,_,?_,hq⟩;rw[oO];have hg':=acJ hg har;have hrt:H7 q.r ((l.map (RT.pv q.r)).take len)=aeg (l.take len):=by rw[<-abz];exact QE q.r _
  have hbl:WF len (aef l)=aej:=by simpa using eX
  have hmo:WF len iq=aej:=by simp[iq];omega
  have hbe:aaP (aef m') (l.take len).length=aej:=by simp_all
  simp only[step,hf,Ol,PW,abF,ad4,hbl,hmo,hz,hg',hrt,s2,hbe,Bool.not_false,adu,if_true,ad6,lH,zH,aea,acG]
 unfold afU at he;cases hA:acp q.r q.g args s z with
 |none=>rw[hA]at he;cases he
 |some u=>
  obtain⟨t,o,l⟩:=u;rw[hA]at he;obtain⟨x,a,rfl,ht,hz,hg,h⟩:=WJ hA;obtain⟨p0,pr,rfl,h0,ha⟩:=ha;rw[cT]at ht;rcases h with⟨rfl,ex,rfl⟩|⟨len,cap,ex,rfl,rfl⟩
  ·obtain⟨m,hm,he⟩:=dz he
   obtain⟨e0,n0,rfl,o0⟩:=h0;obtain⟨rfl,rfl⟩:e0=aef q.r/\n0=(aef l):=by
    rcases o0 with⟨r1,l1,a,b,c⟩|a
    ·rw[ht]at a;injection a with a;injection a with a1 a2;subst a1;cases a2;exact⟨b,c⟩
    rw[ht]at a;cases a
   refine key t (aef l) l m ex (aef l) pr a ht hz hg ha rfl (ado _) (by rw[List.take_length];exact hm) ?_
   grind
  obtain⟨m,hm,he⟩:=dz he
  obtain⟨e0,rfl,o0⟩:=h0;obtain rfl:e0=(aef q.r):=by
   rcases o0 with⟨r1,l1,a,b⟩|a|⟨_,a,_⟩
   ·rw[ht]at a;injection a with a;injection a with a1 a2;subst a1;exact b
   ·rw[ht]at a;cases a
   grind
  obtain⟨hn,m',IX,rfl⟩:=OC hm;exact key t len l m' ex cap pr a ht hz hg ha rfl hn IX he
theorem OD(IH:ur F cx): ∀n,Qz F (Y6 cx n)
 |0=>λf args s z R' k ρ w y pa ps Q _ _ h _=>by cases h
 |n+1=>λf args s z R' k ρ w y pa ps Q ha hS h hk=>by
  simp[Y6]at h;cases hx:cx.code f with
  |none=>rw[hx]at h;cases h
  |some x=>
   rw[hx]at h;cases x with
   |code x=>exact CH IH (OD IH n) (IH.code f _ hx) ha hS h hk
   |ins e=>exact Te (IH.code f _ hx) ha hS h hk
   |srt q=>exact Ti (IH.code f _ hx) ha hS h hk
   |cat=>exact Tg (IH.code f _ hx) ha hS h hk
def WK:Kd->Bool->Bool
 | .own,b=>b
 |_,b=>!b
def af9(kd:Kd){β:Type}(res:Arg β)(b:β)(p:PV)(ps:di)(z:List Nat):Prop:=
 match kd with
 | .pure=>p.oC=aej/\xH (res.enc b)=aeg p
 | .lK=>p.oC=aek/\ ∃q,D3 ps p=aeg q/\xH (res.enc b)=aeg q
 | .own=> ∀nx,∃p0 p' q seen,Ff ps z nx [] p=aeg (p',q,seen)/\xH (res.enc b)=aeg p0/\Kf nx p0=aeg (p',q)
mutual
theorem QF{s:List SB}: ∀{v:SV} {p:PV},R s v p->EE v=aej->xH v=aeg p
 | .int _ _,p,h,_| .bool _,p,h,_| .str _,p,h,_=>by rw[show p=_ from h];rfl
 | .agg cs,p,h,hn=>by obtain⟨q,rfl,h⟩:=h;simp only[xH,Kn h hn]
 | .cV cs,p,h,hn=>by obtain⟨q,rfl,h⟩:=h;simp only[xH,Kn h hn]
 | .jX,_,_,h| .undef,_,_,h| .nD,_,_,h| .fv,_,_,h| .sl _ _,_,_,h| .nil _ _,_,_,h| .own _ _,_,_,h| .pre _ _ _ _,_,_,h| .part _ _ _ _ _,_,_,h| .pa _ _ _ _ _,_,_,h| .pb _ _ _,_,_,h| .bp _ _ _,_,_,h| .bZ _ _,_,_,h| .fE _ _ _,_,_,h| .mp _,_,_,h=>by cases h
theorem Kn{s:List SB}: ∀{v:List SV} {p:List PV},RL s v p->wQ v=aej->tN v=aeg p
 | [],p,h,_=>by rw[show p=_ from h];rfl
 |x::xs,p,h,hn=>by obtain⟨a,as,rfl,h1,h2⟩:=h.cons_inv;simp only[wQ,If]at hn;exact fV.2 ⟨_,_,rfl,QF h1 hn.1,Kn h2 hn.2⟩
end
theorem Tj{kd:Kd}{β:Type}{res:Arg β}{v:SV}{s:List SB}{z:List Nat}{p:PV}{ps:di}{ρ:Type}{w:β->ρ}{y:ρ}(hv:R s v p)(hS:de s ps)(h:Y7 kd res v s z ρ w=aeg y):
 ∃b,y=w b/\af9 kd res b p ps z:=by
 unfold Y7 at h;cases kd with
 |pure=>obtain⟨h1,h2⟩:=dm h;obtain⟨b,h3,h4⟩:=bV h2;injection h4 with h4;exact⟨b,h4.symm,Qx hv h1,res.law h3 (QF hv h1)⟩
 |lK=>obtain⟨h1,h2⟩:=xk h;obtain⟨u,h3,h4⟩:=bV h2;obtain⟨b,h5,h6⟩:=bV h4;injection h6 with h6;obtain⟨q,h7,h8⟩:=aeL hS hv h3;exact⟨b,h6.symm,MN hv h1 h3,q,h7,res.law h5 h8⟩
 |own=>obtain⟨u,h3,h4⟩:=bV h;obtain⟨b,h5,h6⟩:=bV h4;injection h6 with h6;refine⟨b,h6.symm,λnx=>?_⟩;obtain⟨p0,p',q,h7,h8,h9⟩:=Zv hS nx hv h3;exact⟨p0,p',q,u.2,h9,res.law h5 h7,h8⟩
theorem de.nil:de [] []:=⟨rfl,λt b h=>by simp at h⟩
theorem jJ.of{f:FuncId}{x:ax}{α β:Type}{args:bR α}{res:Arg β}{kd:Kd}{fn:α->Option β}{ow:Bool}(hf:F f=aeg (.code x))(ho:WK kd ow=aej)(IH:ur F cx)
 (h: ∀a,UY cx x args res kd a=fn a):jJ F f ⟨args,res,fn,kd,ow⟩:=by
 intro a b as pa aB fz hb hpa hex;have hb:fn a=aeg b:=hb;rw[<-h a]at hb;obtain⟨r,hr,n,v,s,z,dy,hl⟩:=CH IH (OD IH 8) hf (Ki hpa) de.nil hb (λv s' z' p CG B7 w' y' hv hS hk=>Tj hv hS hk);have Yh:=hr;subst Yh;cases kd with
 |pure=>
  obtain⟨h1,h2⟩:=hl;have how:ow=aek:=by simpa[WK]using ho
  subst how;refine⟨n,{v:=v,rd:=fb _ as},?_,v,h2,rfl⟩;simp[eK,hex,hf,dy,h1,]
 |lK=>
  obtain⟨h1,q,h2,h3⟩:=hl;have how:ow=aek:=by simpa[WK]using ho
  subst how;refine⟨n,{v:=q,rd:=fb _ as,fr:=fb _ as},?_,q,h3,rfl⟩;simp[eK,hex,hf,dy,h1,h2]
 |own=>have how:=ho;subst how;obtain⟨p0,p',q,seen,h1,h2,h3⟩:=hl (aef aB);refine⟨n,{v:=p',news:=q,rd:=fb _ as},?_,p0,p',q,h2,h3,rfl⟩;simp[eK,hex,hf,dy,h1]
theorem QG: ∀(s:List SB) (q:List B6),(EG s q).1.length=aef s
 | [],q=>rfl
 |b::r,q=>by simp[EG,QG r]
mutual
theorem R.take{s:List SB}{k:Nat}: ∀{v:SV} {p:PV},R s v p->(∀t∈SI zE v,t<k)->R (s.take k) v p
 | .jX,_,_,_=>trivial
 | .undef,_,h,_| .nD,_,h,_| .fv,_,h,_| .int _ _,_,h,_| .bool _,_,h,_| .str _,_,h,_| .sl _ _,_,h,_| .nil _ _,_,h,_| .bp _ _ _,_,h,_| .bs _ _ _ _,_,h,_| .bq _ _ _ _,_,h,_| .mp _,_,h,_=>h
 | .agg cs,_,h,ht=>by obtain⟨q,rfl,h⟩:=h;exact⟨q,rfl,RL.Ko h ht⟩
 | .cV cs,_,h,ht=>by obtain⟨q,rfl,h⟩:=h;exact⟨q,rfl,RL.Ko h ht⟩
 | .bZ cs o,_,h,ht=>by obtain⟨q,rfl,h⟩:=h;exact⟨q,rfl,RL.Ko h ht⟩
 | .fE f a b,_,h,ht=>by obtain⟨pa,pb,rfl,h1,h2⟩:=h;exact⟨pa,pb,rfl,RL.Ko h1 (λt h=>ht t (abT _ h)),RL.Ko h2 (λt h=>ht t (abP _ h))⟩
 | .own t ex,_,h,ht=>by
  obtain⟨e,n,rfl,dO⟩:=h;have hk:=ht t (ac6.2 rfl);refine⟨e,n,rfl,?_⟩;rcases dO with⟨r,l,h1,h2,h3⟩|h1
  ·exact .inl ⟨r,l,by rw[NE hk];exact h1,h2,h3⟩
  exact .inr (by rw[NE hk];exact h1)
 | .pre t a b c,_,h,ht=>by
  obtain⟨e,rfl,dO⟩:=h;have hk:=ht t (ac6.2 rfl);refine⟨e,rfl,?_⟩;rcases dO with⟨r,l,h1,h2⟩|h1
  ·exact .inl ⟨r,l,by rw[NE hk];exact h1,h2⟩
  exact .inr (by rw[NE hk];exact h1)
 | .part t o a b c,_,h,ht=>by
  obtain⟨e,rfl,dO⟩:=h;have hk:=ht t (ac6.2 rfl);refine⟨e,rfl,?_⟩;rcases dO with⟨r,l,h1,h2⟩|h1
  ·exact .inl ⟨r,l,by rw[NE hk];exact h1,h2⟩
  exact .inr (by rw[NE hk];exact h1)
 | .pa t r i a o,_,h,ht=>by
  obtain⟨rfl,dO⟩:=h;have hk:=ht t (abN ..);refine⟨rfl,?_⟩;rcases dO with⟨l,h1,h2⟩|h1
  ·exact .inl ⟨l,by rw[NE hk];exact h1,h2⟩
  exact .inr (by rw[NE hk];exact h1)
 | .pb t i o,_,h,ht=>by
  obtain⟨e,rfl,dO⟩:=h;have hk:=ht t (abN ..);refine⟨e,rfl,?_⟩;rcases dO with⟨r,l,h1,h2⟩|h1
  ·exact .inl ⟨r,l,by rw[NE hk];exact h1,h2⟩
  exact .inr (by rw[NE hk];exact h1)
theorem RL.Ko{s:List SB}{k:Nat}: ∀{v:List SV} {p:List PV},RL s v p->(∀t∈wP zE v,t<k)->RL (s.take k) v p
 | [],_,h,_=>h
 |x::xs,_,h,ht=>by obtain⟨a,as,rfl,h1,h2⟩:=h.cons_inv;exact RL.cons (R.take h1 (λt h=>ht t (abT _ h))) (RL.Ko h2 (λt h=>ht t (abP _ h)))
end
theorem Kp{R' ρ:Type}{w:R'->ρ}{y:ρ}: ∀{s s':List SB} {k:js R'},Ia s s' k ρ w=aeg y->k ρ w=aeg y/\aef s'=aef s/\ ∀(t:Nat) (x z:SB),s[t]? =aeg x->s'[t]? =aeg z->Zx x z
 | [],[],k,h=>⟨h,rfl,λt x z h=>by simp at h⟩
 | [],_::_,k,h=>by cases h
 |_::_,[],k,h=>by cases h
 |x::xs,y'::ys,k,h=>by
  have step: ∀(_:Ia xs ys k ρ w=aeg y) (_:Zx x y'),k ρ w=aeg y/\(y'::ys).length=(x::xs).length/\ ∀(t:Nat) (a b:SB),(x::xs)[t]? =aeg a->(y'::ys)[t]? =aeg b->Zx a b:=by
   intro h hx;obtain⟨h1,h2,h3⟩:=Kp h
   grind
  cases x with
  |arr r l=>
   cases y' with
   |arr q m=>obtain⟨hr,h2⟩:=dm h;obtain⟨hl,h3⟩:=kF h2;exact step h3 ⟨Ct hr,by simpa using hl⟩
   |_=>cases h
  |dead=>cases y' with
   |dead=>exact step h trivial
   |_=>cases h
  |box cs=>cases y' with
   |box _=>exact step h trivial
   |_=>cases h
  |set l=>cases y' with
   |set _=>exact step h trivial
   |_=>cases h
  |mI p l=>cases y' with
   |mI _ _=>exact step h trivial
   |_=>cases h
theorem Kq: ∀{s:List SB},J0 s=aej-> ∀(t:Nat) (b:SB),s[t]? =aeg b->Dt b=aej
 | [],_,t,b,h=>by simp at h
 |x::xs,hs,0,b,h=>by simp[J0,]at hs;grind
 |x::xs,hs,t+1,b,h=>by simp[J0,]at hs;exact Kq hs.2 t b (by simpa using h)
theorem jY.of{f:FuncId}{x:ax}{wd:Bool}{ka ko:List AK}{ta:List SV}{tb to:List SB}{tv:SV}{fn:kE ka->Option _}(hf:F f=aeg (.code x))(IH:ur F cx)
 (h: ∀a,anS wd cx x ka ta tb ko tv to a=fn a):jY F f ⟨ka,ta,tb,ko,tv,to,fn⟩:=by
 intro a b pa ps hb ha hS;rw[show(⟨ka,ta,tb,ko,tv,to,fn⟩:fB).fn a=fn a from rfl,<-h a]at hb;have eX:(fB.sa ⟨ka,ta,tb,ko,tv,to,fn⟩ a).length=(aef tb):=QG _ _;obtain⟨r,hr,n,v,s,z,dy,hz,hq⟩:=CH IH (OD IH 8) hf (Q:=λ(r:kE ko) p CG z'=>z'=[]/\ky (aef tb) p CG=aej/\
  R (fB.sb ⟨ka,ta,tb,ko,tv,to,fn⟩ r) (fB.vb ⟨ka,ta,tb,ko,tv,to,fn⟩ r) p/\de (fB.sb ⟨ka,ta,tb,ko,tv,to,fn⟩ r) _/\
  (fB.sb ⟨ka,ta,tb,ko,tv,to,fn⟩ r).length=(fB.sa ⟨ka,ta,tb,ko,tv,to,fn⟩ a).length/\
  ∀(t:Nat) (x y:SB),(fB.sa ⟨ka,ta,tb,ko,tv,to,fn⟩ a)[t]? =aeg x->(fB.sb ⟨ka,ta,tb,ko,tv,to,fn⟩ r)[t]? =aeg y->Zx x y) ha hS hb (λv s' z' p CG B7 w' y' hv hS' hk=>by
  cases z' with
  |cons _ _=>cases hk
  |nil=>
   obtain⟨hc,hk⟩:=dm hk;simp[]at hc;obtain⟨⟨⟨⟨c1,c2⟩,c3⟩,c4⟩,c5⟩:=hc;obtain⟨hk,f1,f2⟩:=Kp hk;obtain⟨r,hr,hk⟩:=bV hk;injection hk with hk;have hu:R s' (bif wd then MD s' v else v) p:=by
    cases wd with
    |true=>exact U6 hv
    |false=>exact hv
   generalize (bif wd then MD s' v else v)=u at c1 c3 c4 hr hu;have LL:=uq hr;have ZC:fB.vb ⟨ka,ta,tb,ko,tv,to,fn⟩ r=u:=by show(zj tv _).1=u;rw[LL,I1 _ c1]
   have hsb:fB.sb ⟨ka,ta,tb,ko,tv,to,fn⟩ r=s'.take (aef tb):=by show(EG to _).1=_;rw[LL,I1 _ c1];have:=FT [] c2;rw[abK]at this;rw[this]
   unfold aeF at c3;rw[abw]at c3;have hkv:=λt ht=>by simpa using c3 t (abT _ ht)
   have hkb:=λb hb t ht=>by simpa using c3 t (abP _ (ae7.2 ⟨b,hb,ht⟩))
   have AI:de (s'.take (aef tb)) (CG.take (aef tb)):=⟨by simp[hS'.len],λt x hx=>by
    have iL:t<(aef tb):=by have:=(IR.1 hx).1;rw[abQ]at this;omega
    have hx':=hx;rw[NE iL]at hx';obtain⟨q,q1,q2⟩:=hS'.at_ t x hx';refine⟨q,by rw[NE iL];exact q1,?_⟩;cases x with
    |box cs=>obtain⟨pc,rfl,hpc⟩:=q2;exact⟨pc,rfl,RL.Ko hpc (hkb _ (abC hx))⟩
    |_=>exact q2⟩
   refine⟨r,hk.symm,rfl,?_,by rw[ZC,hsb];exact R.take hu hkv,by rw[hsb];exact AI,by rw[hsb];exact f1,by rw[hsb];exact f2⟩;unfold ky;rw[abw];intro t ht;rw[List.mem_append]at ht;rcases ht with ht|ht
   ·rw[<-Zo (λ_=>rfl) hu c4]at ht
    simpa using hkv t ht
   rw[ae7]at ht
   obtain⟨q,hq,ht⟩:=ht;obtain⟨j,hj,he⟩:=abU hq;have Se:j<(s'.take (aef tb)).length:=by rw[<-AI.len];exact hj
   obtain⟨x,hx⟩: ∃x,(s'.take (aef tb))[j]? =aeg x:=⟨_,PP Se⟩;obtain⟨q',q1,q2⟩:=AI.at_ j x hx;rw[PP hj,he]at q1;injection q1 with q1;subst q1;rw[<-Ov q2 (Kq c5 j x hx)]at ht;simpa using hkb x (abC hx) t ht)
 grind
theorem Tk{f:FuncId}{r:List PT}(hf:F f=aeg (.nT aek (ir (aef r))))(l:List _)(hl:(aef l)<=1048576){as:List PV}{aB:di}{fz:List Nat}(hex:GF aB (B9 aB deep) as=aeg [.sl (aef r) aek (l.map (RT.pv r))]):
 ∃n x,eK F (run F n) aek f as aB fz=aeg x/\aeM .own (aef aB) (fb (gN aB deep) as) (.sl r l) x:=by
 refine⟨0,{v:= .own (aef aB) (aef r) 0 (aef l) (aef l) aek,news:=[.arr (aef r) _],rd:=fb _ as},?_,.sl (aef r) aek _,.own (aef aB) (aef r) 0 (aef l) (aef l) aek,[.arr (aef r) (l.map (RT.pv r))],rfl,by simp[Kf,],rfl⟩;simp[eK,hex,hf];cases l with
 |nil=>rfl
 |cons a l=>
  have h2:WF ((l.map (RT.pv r)).length+1) iq=aej:=by simp[iq]at hl ⊢;omega
  simp only[abA,ir,ad4,h2,acI,if_true,Ff];simp[has]
theorem jJ.clone{f:FuncId}{n:Nat}{r:List PT}(hf:F f=aeg (.nT aek (ir n)))(hn:n=aef r):jJ F f (GB.clone r):=by
 intro(a:List _) (b:List _) as pa aB fz hb hpa hex;subst hn;obtain⟨rfl,hl⟩:=EK hb;have af':pa=[.sl (aef r) aek (b.map (RT.pv r))]:=by
  have:aeg [PV.sl (aef r) aek _]=aeg pa:=hpa
  grind
 subst af';exact Tk hf b hl hex
theorem jJ.U1{f:FuncId}(hf:F f=aeg (.nT aek Eo)):jJ F f GB.U1:=by
 intro a b as pa aB fz hb hpa hex;obtain⟨x,y,c⟩:=a;have HP:uh x y c=aeg b:=hb;unfold uh at HP;cases hc:(aem (0<=x)&&aem (0<=y)&&aem (0<=c)&&aem (c<=1))with
 |false=>grind
 |true=>
  rw[hc]at HP;injection HP with HP;subst HP;simp[]at hc;obtain⟨⟨⟨h1,h2⟩,h3⟩,h4⟩:=hc;obtain⟨x,rfl⟩:=UV h1;obtain⟨y,rfl⟩:=UV h2;obtain⟨c,rfl⟩:=UV h3;have af':pa=[.int .u64 (.ofNat x),.int .u64 (.ofNat y),.int .u64 (.ofNat c)]:=by have:=hpa;exact(abL this).symm
  subst af';have hcb:WF c 1=aej:=by simp;omega
  refine⟨0,{v:= .cV [.int .u64 _,.int .u64 _],rd:=fb _ as},?_,_,rfl,rfl⟩;simp[eK,hex,hf,Eo,hcb,];rfl
theorem jY.zero{f:FuncId}{c:fB}(h: ∀a,c.fn a=aei):jY F f c:=λa b pa ps hb=>by grind
theorem jJ.zero{f:FuncId}{c:GB}(h: ∀a,c.fn a=aei):jJ F f c:=λa b as pa aB fz hb=>by grind
theorem jJ.at0{f:FuncId}{fn:Unit->Option Bool}(h:jJ F f ⟨bR.nil,Arg.bool,fn,.pure,aek⟩)(hb:fn ()=aeg aej):jJ F f ⟨bR.nil,Arg.bool,λ_=>aeg aej,.pure,aek⟩:=by intro a b as args aB fz hr hp hx;obtain rfl:=abL hr;exact h () aej as args aB fz hb hp hx
end
end Go.Vm
/- What comes in to a law, as typed values; a law from a contract. -/
namespace Go.Vm
open Go.ChangeShapes Go.WideShapes Go.ChangeAt Go.RowKit
def PT.wf:(p:PT)->p.T->Prop
 | .i k,n=>(Lit.int k n).wf=aej
 | .b,_=>True
def RT.wf:(r:List PT)->RT r->Prop
 | [],_=>True
 | [p],a=>p.wf a
 |p::q::r,a=>p.wf a.1/\RT.wf (q::r) a.2
def ss(r:List PT)(vs:List SV):Prop:= ∃a:RT r,vs=RT.sv r a/\RT.wf r a
def KSl(r:List PT)(vs:List SV):Prop:= ∃l:List (RT r),vs=[.sl r l]/\ ∀a∈l,RT.wf r a
def L1:List (List SV->Prop)->List SV->Prop
 | [],vs=>vs=[]
 |K::Ks,vs=> ∃a b,vs=a++b/\K a/\L1 Ks b
theorem ss.cons{p:PT}: ∀{r:List PT} {a b:List SV},ss [p] a->ss r b->ss (p::r) (a++b)
 | [],a,b,⟨x,hx,wx⟩,⟨y,hy,_⟩=>⟨x,by rw[hx,hy];rfl,wx⟩
 |q::r,a,b,⟨x,hx,wx⟩,⟨y,hy,wy⟩=>⟨(x,y),by rw[hx,hy];rfl,wx,wy⟩
theorem ss.split{p q:PT}{r:List PT}{vs:List SV}:ss (p::q::r) vs-> ∃a b,vs=a++b/\ss [p] a/\ss (q::r) b
 |⟨x,hx,wx⟩=>⟨[p.sv x.1],RT.sv (q::r) x.2,hx,⟨x.1,rfl,wx.1⟩,⟨x.2,rfl,wx.2⟩⟩
theorem ss.app: ∀{r s:List PT} {a b:List SV},ss r a->ss s b->ss (r++s) (a++b)
 | [],s,a,b,⟨x,hx,_⟩,h=>by have:a=[]:=hx;subst this;exact h
 | [p],s,a,b,h,k=>ss.cons h k
 |p::q::r,s,a,b,h,k=>by
  obtain⟨a1,a2,rfl,h1,h2⟩:=ss.split h
  rw[abu];exact ss.cons h1 (ss.app h2 k)
theorem Hb: ∀{rs:List (List PT)} {vs:List SV},L1 (rs.map ss) vs->ss rs.flatten vs
 | [],vs,h=>by have:vs=[]:=h;subst this;exact⟨(),rfl,trivial⟩
 |r::rs,vs,⟨a,b,h1,h2,h3⟩=>by subst h1;rw[List.flatten_cons];exact ss.app h2 (Hb h3)
def gW(P : Program)(t : TypeId)(K : List SV -> Prop) : Prop :=
  ∀ (H : Type) (enc : TypeId × Value -> H) (w : World) (Ey : Nat) (cs : List Value) (x : DataW H × List MemPlace), DataW.trod enc P w 0 (λ_ => aej) aej Ey t cs = aeg x ->
    ∃ vs q, K vs /\ tN vs = aeg q /\ gz (N9 w) je q cs
section
variable {P : Program}
theorem gW.mono{t:TypeId}{K K':List SV->Prop}(h:gW P t K)(hk: ∀vs,K vs->K' vs):gW P t K':=λH enc w Ey cs x hx=>by obtain⟨vs,q,h1,h2,h3⟩:=h H enc w Ey cs x hx;exact⟨vs,q,hk vs h1,h2,h3⟩
theorem gW.int{t:TypeId}{k:IntKind}(ht:P.underlying t=aeg (.int k)):gW P t (ss [.i k]):=λH enc w Ey cs x h=>by obtain⟨n,rfl,_,hw⟩:=DataW.trod_int ht h;exact⟨[.int k n],[.int k n],⟨n,rfl,hw⟩,rfl,.cons _ _ _ _ (.int k n) .nil⟩
theorem gW.bool{t:TypeId}(ht:P.underlying t=aeg .bool):gW P t (ss [.b]):=λH enc w Ey cs x h=>by obtain⟨b,rfl,_⟩:=DataW.trod_bool ht h;exact⟨[.bool b],[.bool b],⟨b,rfl,trivial⟩,rfl,.cons _ _ _ _ (.bool b) .nil⟩
def gB(P:Program):List Field->List (List SV->Prop)->Nat->Prop
 | [],[],_=>True
 |f::fs,K::Ks,off=>f.offset=off/\gW P f.type K/\gB P fs Ks (off+P.cellsOf f.type)
 |_,_,_=>False
theorem gB.nil{off:Nat}:gB P [] [] off:=trivial
theorem gB.cons{f:Field}{fs:List Field}{K:List SV->Prop}{Ks:List (List SV->Prop)}{off:Nat}(h1:f.offset=off)(h2:gW P f.type K)(h3:gB P fs Ks (off+P.cellsOf f.type)):gB P (f::fs) (K::Ks) off:=⟨h1,h2,h3⟩
def z8(P:Program):List Field->Nat
 | []=>0
 |f::fs=>P.cellsOf f.type+z8 P fs
theorem Kr{im:Im}{loc:Loc}: ∀{p:List PV} {vs:List Value} {q:List PV} {us:List Value},gz im loc p vs->gz im loc q us->gz im loc (p++q) (vs++us)
 | [],[],_,_,.nil,h=>h
 |_::_,_::_,_,_,.cons x v xs ws h hs,k=> .cons x v _ _ h (Kr hs k)
theorem Kt{H:Type}{enc:TypeId×Value->H}{w:World}{n:Nat}{cs:List Value}: ∀{fs:List Field} {Ks:List (List SV->Prop)} {off:Nat},gB P fs Ks off->aef cs=off+z8 P fs->
 (∀f∈fs,∃x,DataW.trod enc P w 0 (λ_=>aej) aej n f.type ((cs.drop f.offset).take (P.cellsOf f.type))=aeg x)-> ∃vs q,L1 Ks vs/\tN vs=aeg q/\gz (N9 w) je q (cs.drop off)
 | [],[],off,_,hl,_=>⟨[],[],rfl,rfl,by rw[List.drop_eq_nil_of_le (by simp[z8]at hl;omega)];exact .nil⟩
 |f::fs,K::Ks,off,⟨h1,h2,h3⟩,hl,hx=>by
  obtain⟨x,Mw⟩:=hx f (by simp);obtain⟨vs,q,k1,k2,k3⟩:=h2 H enc w n _ x Mw;obtain⟨RZ,q',k1',k2',k3'⟩:=Kt (n:=n) h3 (by simp only[z8]at hl;omega) (λg hg=>hx g (by simp[hg]));refine⟨vs++RZ,q++q',⟨vs,RZ,rfl,k1,k1'⟩,EI k2 k2',?_⟩;rw[h1]at k3;have:cs.drop off=(cs.drop off).take (P.cellsOf f.type)++cs.drop (off+P.cellsOf f.type):=by rw[<-List.drop_drop,List.take_append_drop]
  rw[this];exact Kr k3 k3'
 | [],_::_,_,h,_,_=>h.elim
 |_::_,[],_,h,_,_=>h.elim
theorem gW.struct{t:TypeId}{fs:Array Field}{Ks:List (List SV->Prop)}(ht:P.underlying t=aeg (.struct fs))(hF:gB P fs.toList Ks 0)(hc:P.cellsOf t=z8 P fs.toList):gW P t (L1 Ks):=λH enc w Ey cs x h=>by
 obtain⟨xs,n,rfl,_,hl,hxl,wN⟩:=DataW.trod_struct ht h;have:=Kt (P:=P) (enc:=enc) (w:=w) (n:=n) (cs:=cs) hF (by omega) (λf hf=>by
  obtain⟨i,hi,he⟩:=List.mem_iff_getElem.1 hf;have tY:i<fs.size:=by simpa using hi
  have hg:fs[i]? =aeg f:=by rw[acl tY];simpa using he
  have:=wN i f hg;rw[PP (by omega)]at this;exact⟨_,this⟩)
 rwa [abB]at this
theorem RT.vrl{r:List PT}{a:RT r}{q:List PV}(h:tN (RT.sv r a)=aeg q):q=RT.pv r a:=by rw[RT.MF]at h;exact(abL h).symm
theorem gz.nth{im:Im}{loc:Loc}: ∀{p:List PV} {vs:List Value},gz im loc p vs-> ∀(k:Nat) (c:PV),p[k]? =aeg c-> ∃v,vs[k]? =aeg v/\VR im loc c v
 |_::_,_::_,.cons x v xs ws h hs,0,c,hc=>by simp at hc;subst hc;exact⟨v,by simp,h⟩
 |_::_,_::_,.cons x v xs ws h hs,k+1,c,hc=>by obtain⟨u,h1,h2⟩:=gz.nth hs k c (by simpa using hc);exact⟨u,by simpa using h1,h2⟩
theorem gW.slice{t e:TypeId}{r:List PT}(ht:P.underlying t=aeg (.slice e))(he:gW P e (ss r))(hc:P.cellsOf e=aef r)(hr:0<aef r):gW P t (KSl r):=λH enc w Ey cs x h=>by
 rcases Go.Deep.open_slice ht h with⟨rfl,_⟩|⟨a,len,cap,m,n,D,Pl,rfl,_,hl,hm,hmm,_,hx⟩
 ·exact⟨[.sl r []],[.sl (aef r) aek []],⟨[],rfl,by simp⟩,rfl,.cons _ _ _ _ (.sl (aef r) aek [] aei 0 (ado _) (λh=>by cases h) (λh=>absurd rfl h)) .nil⟩
 have Fv:len<=m:=by rw[hmm];split<;>omega
 have each: ∀i,i<len-> ∃A:RT r,RT.wf r A/\ ∃Lz,w.cells? 0 (a.add (i*aef r)) (aef r)=aeg Lz/\gz (N9 w) je (RT.pv r A) Lz:=by intro i hi;obtain⟨Lz,h1,h2⟩:=hx i (by omega);obtain⟨vs,q,⟨A,hA,wA⟩,k2,k3⟩:=he H enc w n Lz _ h2;subst hA;rw[RT.vrl k2]at k3;rw[hc]at h1;exact⟨A,wA,Lz,h1,k3⟩
 have ch: ∃A:Nat->RT r,∀i,i<len->RT.wf r (A i)/\ ∃Lz,w.cells? 0 (a.add (i*aef r)) (aef r)=aeg Lz/\gz (N9 w) je (RT.pv r (A i)) Lz:=by
  classical
  refine⟨λi=>if h:i<len then(each i h).choose else RT.zero r,λi hi=>?_⟩;simp only[dif_pos hi];exact(each i hi).choose_spec
 obtain⟨A,hA⟩:=ch;refine⟨[.sl r ((adw len).map A)],[.sl (aef r) aek (((adw len).map A).map (RT.pv r))],⟨_,rfl,λx hx=>?_⟩,rfl,.cons _ _ _ _ ?_ .nil⟩
 ·obtain⟨i,hi,rfl⟩:=aed.1 hx
  exact(hA i (List.mem_range.1 hi)).1
 have eX:(((adw len).map A).map (RT.pv r)).length=len:=by simp
 have:=VR.sl (im:=N9 w) (loc:=je) (aef r) aek (((adw len).map A).map (RT.pv r)) (aeg a) cap (by rw[eX];exact hl) (λh=>by cases h) (λfo=>by
  have PL:0<len:=by
   rcases ae0 len with h|h
   ·subst h;exact absurd rfl fo
   exact h
  obtain⟨_,cs0,h0,_⟩:=hA 0 PL;obtain⟨_,RY,LR⟩:=ae2 h0;obtain⟨b,off,spot⟩:=a;have ajt:spot=aei:=by have h1:=LR 0 hr;rw[PP (by omega)]at h1;simpa[Addr.add]using World.cell?_spot h1
  subst ajt;refine⟨b,off,rfl,λi row BX=>?_⟩;simp only[List.map_map,acF,ab0]at BX;obtain⟨j,hj,rfl⟩:=BX;have Se:=dD hj;have:j=i:=by rw[List.getElem?_range (by simpa using Se)]at hj;exact(abL hj).symm
  subst this;have aju:j<len:=by simpa using Se
  obtain⟨_,Lz,h1,h2⟩:=hA j aju;obtain⟨_,LK,GQ⟩:=ae2 h1;refine⟨RT.CA r (A j),λk c hk=>?_⟩;obtain⟨v,hv,tL⟩:=gz.nth h2 k c hk;have hkr:k<(aef r):=by
   have:=dD hk
   rwa [Function.comp,RT.CA]at this
  have cc:=GQ k hkr;rw[hv]at cc;rw[Go.WideShapes.add_plain,Go.WideShapes.add_plain]at cc;have Sd:c.plain=aej:=abw.1 (RT.plain r (A j)) c (abC hk);exact⟨v,tL.plain Sd,Wk cc⟩)
 rw[eX]at this;exact this
theorem gW.ZD{t:TypeId}{fs:Array Field}{K:List SV->Prop}(h:gW P t K)(ht:P.underlying t=aeg (.struct fs)){H:Type}{enc:TypeId×Value->H}{w:World}{r8:Nat}{v:Value}{d:DataW H}{p:List MemPlace}
 (hv:Value.okWide P w .any r8 t v) (hd:DataW.Trod enc P w 0 (λ_=>aej) aej t v d p): ∃vs q,K vs/\tN vs=aeg q/\VR (N9 w) je (.agg q) v:=by
 obtain⟨cs,rfl,_⟩:=okWide_struct ht hv;obtain⟨Ey,hf⟩:=hd;obtain⟨vs,q,k1,k2,k3⟩:=h H enc w Ey _ _ hf;exact⟨vs,q,k1,k2,.agg q _ k3⟩
theorem gW.aoa{t:TypeId}{k:IntKind}(ht:P.underlying t=aeg (.int k)){H:Type}{enc:TypeId×Value->H}{w:World}{r8:Nat}{v:Value}{d:DataW H}{p:List MemPlace}
 (hv:Value.okWide P w .any r8 t v) (hd:DataW.Trod enc P w 0 (λ_=>aej) aej t v d p): ∃n,(Lit.int k n).wf=aej/\VR (N9 w) je (.int k n) v:=by
 obtain⟨n,rfl,_,_,hw⟩:=open_int ht hv hd;exact⟨n,hw,.int k n⟩
theorem wf_i64{n:Int}(h:(Lit.int .i64 n).wf=aej): -9223372036854775808<=n/\n<9223372036854775808:=by
 simp only[Lit.wf,If,decide_eq_true_eq]at h;have e1:IntKind.i64.min= -9223372036854775808:=by decide
 have e2:IntKind.i64.max=9223372036854775807:=by decide
 rw[e1,e2]at h;omega
end
theorem jJ.aob{F:qo}{f:FuncId}{x:ax}{α:Type}{A:bR α}{fn:α->Option Bool}(h:jJ F f ⟨A,Arg.bool,fn,.pure,aek⟩)(hf:F f=aeg (.code x)){a:α}(hb:fn a=aeg aej){ps:List PV}(hp:tN (A.enc a)=aeg ps)(hx:GF [] (B9 [] deep) ps=aeg ps):
 ∃n s z,run F n (.func f ps [] [])=aeg (.func (.bool aej) s z):=by
 obtain⟨n,r,h1,p,h2,rfl⟩:=h a aej ps ps [] [] hb hp hx;have hp':p= .bool aej:=(abL h2).symm;subst hp';refine⟨n,?_⟩;simp only[eK,hx,hf]at h1;split at h1
 ·rename_i v s z hr
  simp only[abM,if_false]at h1;split at h1
  ·injection h1 with h1
   injection h1 with h1;subst h1;exact⟨s,z,hr⟩
  rename_i hn
  split at h1
  ·rename_i v' hv
   injection h1 with h1;injection h1 with h1;subst h1;exfalso;cases v with
   |bool b=>exact hn rfl
   |int _ _|str _|sl _ _ _=>injection hv with hv;cases hv
   |agg cs=>simp only[D3,ab0]at hv;obtain⟨_,_,hv⟩:=hv;cases hv
   |cV cs=>simp only[D3,ab0]at hv;obtain⟨_,_,hv⟩:=hv;cases hv
   |own t e off len cap ex=>simp only[D3]at hv;split at hv<;>first|(injection hv with hv;cases hv)|cases hv
   |_=>cases hv
  cases h1
 cases h1
end Go.Vm
/- What comes in to a law, by the codes of its types. -/
namespace Go.Vm
def KC{α:Type}(C:bU α)(W:α->Prop)(vs:List SV):Prop:= ∃c,vs=C.enc c/\W c
section
variable {α β : Type} {C : bU α} {D : bU β} {W : α -> Prop} {V : β -> Prop} {Ks : List (List SV -> Prop)}
theorem KC.one(vs:List SV):L1 [KC C W] vs->KC C W vs
 |⟨_,_,h,k,e⟩=>by rw[h,show _=[]from e,abK];exact k
theorem KC.cons(k: ∀vs,L1 Ks vs->KC D V vs)(vs:List SV):L1 (KC C W::Ks) vs->KC (C.prod D) (λp=>W p.1/\V p.2) vs
 |⟨_,_,h,⟨x,e,w⟩,m⟩=>by obtain⟨y,e',v⟩:=k _ m;exact⟨(x,y),by rw[h,e,e'];rfl,w,v⟩
theorem KC.SU{f:α->β}{g:β->α}{h: ∀a,g (f a)=a}(k: ∀vs,L1 Ks vs->KC C W vs)(hw: ∀a,W a->V (f a))(vs:List SV)(m:L1 Ks vs):KC (C.SU f g h) V vs:=by obtain⟨x,e,w⟩:=k _ m;exact⟨f x,by rw[e];exact congrArg C.enc (h x).symm,hw _ w⟩
theorem gB.co{P:Program}{f:Field}{fs:List Field}{K:List SV->Prop}{off:Nat}(h2:gW P f.type K)(h3:gB P fs Ks (off+P.cellsOf f.type))(h1:f.offset=off:=by kernel_rfl):gB P (f::fs) (K::Ks) off:=⟨h1,h2,h3⟩
theorem gB.cr{P:Program}{f:Field}{fs:List Field}{r:List PT}{off:Nat}(h2:gW P f.type (ss r))(h3:gB P fs Ks (off+P.cellsOf f.type))(h1:f.offset=off:=by kernel_rfl):gB P (f::fs) (KC (bU.row r) (RT.wf r)::Ks) off:=⟨h1,h2,h3⟩
theorem gB.cb{P:Program}{f:Field}{fs:List Field}{off:Nat}(h2:gW P f.type (ss [.b]))(h3:gB P fs Ks (off+P.cellsOf f.type))(h1:f.offset=off:=by kernel_rfl):gB P (f::fs) (KC bU.bool (PT.wf .b)::Ks) off:=⟨h1,h2,h3⟩
theorem gB.cl{P:Program}{f:Field}{fs:List Field}{r:List PT}{off:Nat}(h2:gW P f.type (KSl r))(h3:gB P fs Ks (off+P.cellsOf f.type))(h1:f.offset=off:=by kernel_rfl):gB P (f::fs) (KC (bU.sl r) (λl=> ∀a∈l,RT.wf r a)::Ks) off:=⟨h1,h2,h3⟩
theorem gW.st{P:Program}{t:TypeId}{fs:Array Field}{K:List SV->Prop}(ht:P.underlying t=aeg (.struct fs))(hF:gB P fs.toList Ks 0)(hk: ∀vs,L1 Ks vs->K vs)(hc:P.cellsOf t=z8 P fs.toList:=by kernel_rfl):gW P t K:=(gW.struct ht hF hc).mono hk
theorem gW.sll{P:Program}{t e:TypeId}{r:List PT}(ht:P.underlying t=aeg (.slice e))(he:gW P e (ss r))(hc:P.cellsOf e=(aef r):=by kernel_rfl)(hr:0<(aef r):=by decide):gW P t (KSl r):= .slice ht he hc hr
end
end Go.Vm
/- A function that puts the rows of a slice in order: what is asked of it in a program, and that the table's entry is then right. -/
namespace Go.Vm
theorem Ku: ∀{p:PT} {x:PV} {a:p.T},FG p x=aeg a->x=p.pv a
 | .i k,.int l n,a,h=>by
  have h:(bif hO l k then aeg n else aei)=aeg a:=h;cases hk:hO l k with
  |false=>rw[hk]at h;cases h
  |true=>rw[hk]at h;obtain rfl:=gO.1 hk;injection h with h;subst h;rfl
 | .b,.bool x,a,h=>by have h:aeg x=aeg a:=h;injection h with h;subst h;rfl
theorem MU: ∀{r:List PT} {x:List PV} {a:RT r},LY r x=aeg a->x=RT.pv r a
 | [],[],a,h=>rfl
 | [],_::_,a,h=>by cases h
 | [p],[v],a,h=>by rw[Ku (show FG p v=aeg a from h)];rfl
 | [p],[],a,h=>by cases h
 | [p],_::_::_,a,h=>by cases h
 |p::q::r,[],a,h=>by cases h
 |p::q::r,v::vs,a,h=>by
  have h:(match FG p v,LY (q::r) vs with
   |some a,aeg b=>aeg (a,b)
   |_,_=>aei)=aeg a:=h
  cases h1:FG p v with
  |none=>rw[h1]at h;cases h
  |some x=>
   cases h2:LY (q::r) vs with
   |none=>rw[h1,h2]at h;cases h
   |some y=>rw[h1,h2]at h;injection h with h;subst h;rw[Ku h1,MU h2];rfl
theorem Kv{r:List PT}: ∀{x:List (List PV)} {l:List (RT r)},H7 r x=aeg l->x=l.map (RT.pv r)
 | [],l,h=>by injection h with h;subst h;rfl
 |v::vs,l,h=>by
  have h:(match LY r v,H7 r vs with
   |some a,aeg l=>aeg (a::l)
   |_,_=>aei)=aeg l:=h
  cases h1:LY r v with
  |none=>rw[h1]at h;cases h
  |some x=>
   cases h2:H7 r vs with
   |none=>rw[h1,h2]at h;cases h
   |some y=>rw[h1,h2]at h;injection h with h;subst h;rw[MU h1,Kv h2];rfl
def aga:Option FuncId->List Value
 |none=>[]
 |some g=>[.func (.func g) ⟨[]⟩ ⟨[]⟩]
structure CI(P:Program)(f:FuncId)(q:Srt):Prop where
 some_: ∀(b off c:Nat) (l m:List (RT q.r)) (arr:Array Value) (el:TypeId) (w:World),0<aef l->aef l<=c->aef l<=1048576->q.fn l=aeg m->aef m=aef l->w.heap[b]? =aeg (.cells arr el (0,0))->
  cA (λk=>arr[k]?) off (aef q.r) (l.map (RT.pv q.r))->off+aef l*aef q.r<=arr.size->
  Calls P f ⟨.slice (aeg ⟨b,off,aei⟩) (aef l) c::aga q.g⟩ w λx w'=>x= .returned (.tuple #[])/\(∃fin:Array Value,fin.size=arr.size/\w'.heap[b]? =aeg (.cells fin el (0,0))/\cA (λk=>fin[k]?) off (aef q.r) (m.map (RT.pv q.r))/\
   ∀j:Nat,off+aef l*aef q.r<=j->fin[j]? =arr[j]?)/\(∀b':Nat,b'<w.heap.size->b'≠b->w'.heap[b']? =w.heap[b']?)/\w.heap.size<=w'.heap.size/\w'.os=w.os/\Tape w w'/\w'.output=w.output
 none_: ∀(a:Option Addr) (c:Nat) (w:World),Calls P f ⟨.slice a 0 c::aga q.g⟩ w λx w'=>x= .returned (.tuple #[])/\w'=w
theorem agb{im:Im}{loc:Loc}{g:Option FuncId}{r:List PV}{us:List Value}(h:acj g r=aej)(hu:gz im loc r us):us=aga g:=by
 unfold acj at h;split at h
 ·cases hu;rfl
 ·rename_i g h'
  have:h'=g:=by simpa using h
  subst this;cases hu with
  |cons _ a _ b h1 h2=>
   cases h2;cases h1 with
   |fE _ _ _ a2 bs ha hb=>cases ha;cases hb;rfl
 cases h
theorem WL{im:Im}{loc:Loc}{aB:di}{fz:List Nat}{w w':World}{t e:Nat}{li:LI}{rows wB:List Row}{arr fin:Array Value}{el:TypeId}(oD:SR im loc aB fz w)(hl:loc t=aeg li)(dd:aB[t]? =aeg (.arr e rows))(fo:rows≠[])(hf:has fz t=aek)
 (_ha:w.heap[li.eB]? =aeg (.cells arr el (0,0))) (hw:w'.heap[li.eB]? =aeg (.cells fin el (0,0))) (zd: ∀b':Nat,b'<w.heap.size->b'≠li.eB->w'.heap[b']? =w.heap[b']?) (vW:w.heap.size<=w'.heap.size) (ho:w'.os=w.os) (ht:Tape w w') (hp:w'.output=w.output)
 (he:li.aO=e) (hn:li.n=aef wB) (eX:(aef wB)=aef rows) (hfs:fin.size=li.sz) (wM:li.sh+aef wB*e<=li.sz) (hr:cA (λk=>fin[k]?) li.sh e wB):
 zQ im loc aB w (.cV []) (aB.set t (.arr e wB)) fz im loc w' (.tuple #[]):=by
 have V':t<(aef aB):=(IR.1 dd).1;have afa:wB≠[]:=by intro h;subst h;rw[List.length_nil]at eX;exact fo (abv.1 eX.symm)
 have Pr:(ox.arr e rows).cu=aej:=qX fo;have hs1:(ox.arr e wB).cu=aej:=qX afa;have Jt:=oD.free t li _ hl dd Pr hf;have old: ∀{u:Nat} {k:ox},(aB.set t (.arr e wB))[u]? =aeg k->(u=t/\k= .arr e wB)\/(u≠t/\aB[u]? =aeg k):=by
  intro u k h;rw[aai]at h;split at h
  ·rename_i e1;subst e1;first|(rw[AC V']at h;injection h with h;exact .inl ⟨rfl,h.symm⟩)|(injection h with h;exact .inl ⟨rfl,h.symm⟩)
  rename_i fo;exact .inr ⟨λe=>fo e.symm,h⟩
 have sol: ∀{u:Nat} {k:ox},(aB.set t (.arr e wB))[u]? =aeg k->k.cu=aej-> ∃k0,aB[u]? =aeg k0/\k0.cu=aej:=by
  intro u k h hs;rcases old h with⟨rfl,rfl⟩|⟨_,h⟩
  ·exact⟨_,dd,Pr⟩
  exact⟨k,h,hs⟩
 have lt: ∀{b:Nat} {o:Obj},w.heap[b]? =aeg o->b<w.heap.size:=λh=>(aci.1 h).1
 exact {
  jD:= .refl _,fq:= .refl _
  vr:= .cV _ _ .nil
  sr:={
   bW:=λb o hb=>by
    have h1:=oD.bW b o hb;have h2:b≠li.eB:=λh=>by rw[h,Jt]at hb;cases hb
    rw[zd b (lt h1) h2];exact h1
   eB:=λu lu hu=>by
    obtain⟨k,hk,hb⟩:=oD.eB u lu hu
    by_cases e1:u=t
    ·subst e1
     rw[hl]at hu;injection hu with hu;subst hu;exact⟨_,List.getElem?_set_self V',he,hn,λ_=>⟨fin,el,hw,hfs,wM,hr⟩⟩
    refine⟨k,by rw[List.getElem?_set_ne (λh=>e1 h.symm)];exact hk,hb.ig (.refl _) (.refl _) λhs=>?_⟩
    exact zd _ (hb.lt hs) λh=>e1 (oD.lh _ _ _ _ _ _ hu hl hk dd hs Pr h)
   lh:=λu v lu lv k k' hu hv hk LS hs BZ h=>by obtain⟨k0,a,b⟩:=sol hk hs;obtain⟨k1,c,d⟩:=sol LS BZ;exact oD.lh _ _ _ _ _ _ hu hv a c b d h
   free:=λu lu k hu hk hs hz=>by obtain⟨k0,a,b⟩:=sol hk hs;exact oD.free _ _ _ hu a b hz}
  os:=ho,tape:=ht,output:=hp,size:=vW
  frame:=λb hb h=>zd b hb λh2=>h t li _ hl dd Pr h2.symm
  fA:=λb o h=> .inl h
  rI:=λu lu h=> .inl h
  own:=λu lu k hu hk hs=>by obtain⟨k0,a,b⟩:=sol hk hs;exact .inr ⟨u,lu,k0,hu,a,b,rfl⟩}
theorem Tl{im:Im}{loc:Loc}{aB:di}{fz:List Nat}{w:World}(oD:SR im loc aB fz w):zQ im loc aB w (.cV []) aB fz im loc w (.tuple #[]) where
 jD:= .refl _
 fq:= .refl _
 vr:= .cV _ _ .nil
 sr:=oD
 os:=rfl
 tape:= .refl _
 output:=rfl
 size:=ado _
 frame:=λ_ _ _=>rfl
 fA:=λ_ _ h=> .inl h
 rI:=λ_ _ h=> .inl h
 own:=λt li k hl hk hs=> .inr ⟨t,li,k,hl,hk,hs,rfl⟩
theorem Fp.srt{P:Program}{f:FuncId}{q:Srt}{fn:Func}{c:Code}(hf:P.funcs[f]? =aeg fn)(wC:(fn.name== "runtime.NumGoroutine")=aek)(hb:fn.body=aeg c)(h0:q.fn []=aeg [])(H:CI P f q):Fp P f (Ol q):=by
 refine⟨fn,c,hf,wC,hb,?_⟩;intro args aB fz v zR NV hp im loc w us oD Dj;unfold Ol at hp;split at hp
 case h_2=>cases hp
 rename_i t e1 off len cap ex r;split at hp
 case h_2=>cases hp
 rename_i e3 rows dd;split at hp
 case isFalse=>cases hp
 rename_i hc;simp only[If,Nat.beq_eq,Bool.not_eq_true',Nat.ble_eq]at hc;obtain⟨⟨⟨⟨⟨q1,rfl⟩,eX⟩,lJ⟩,X9⟩,hg⟩:=hc;subst q1;have lJ:len<=1048576:=lJ;split at hp
 case h_2=>cases hp
 rename_i l RY;split at hp
 case h_2=>cases hp
 rename_i m hm;split at hp
 case isFalse=>cases hp
 rename_i R5;have R5:(aef m)=(aef l):=by simpa using R5
 injection hp with hp;simp only[aeb]at hp;obtain⟨rfl,rfl,rfl⟩:=hp;have oP:=Kv RY;have Fg:(aef l)=len:=by have:=congrArg List.length oP;rw[abQ,abF]at this;omega
 obtain⟨x0,Wj,rfl,N8,Dj⟩: ∃x0 Wj,us=x0::Wj/\VR im loc (.own t (aef q.r) 0 len cap ex) x0/\gz im loc r Wj:=by cases Dj with|cons _ a _ b h1 h2=>exact⟨a,b,rfl,h1,h2⟩
 obtain rfl:=agb hg Dj;obtain⟨li,a,eC,rfl,hl,he,GL,hlc,Ux,_,IC⟩:=N8.jV;obtain⟨k1,jI,yu⟩:=oD.eB t li hl;rw[dd]at jI;injection jI with jI;subst jI;obtain⟨b1,b2,b3⟩:=yu;obtain rfl:(aef q.r)=e3:=by rw[<-b1,he]
 refine .inr ⟨kD hf wC hb,?_⟩;rcases ae0 len with hz|PL
 ·subst hz
  obtain rfl:l=[]:=abv.1 Fg;rw[h0]at hm;injection hm with hm;subst hm;refine(H.none_ a eC w).mono λx w' ⟨hx,hw⟩=>⟨_,hx,im,loc,?_⟩
  subst hw;have:aB.set t (.arr (aef q.r) (([]:List (RT q.r)).map (RT.pv q.r)++rows.drop 0))=aB:=by
   apply acm;intro j;rw[aai];split
   ·rename_i e;subst e;rw[AC (IR.1 dd).1,dd];rfl
   rfl
  rw[this];exact Tl oD
 have vC:rows≠[]:=by intro h;subst h;simp at eX;omega
 obtain⟨arr,el,D0,RX,PI,dO⟩:=b3 vC;obtain⟨hn0,rfl,wM⟩:li.n≠0/\a=aeg ⟨li.eB,li.sh,aei⟩/\li.sh+eC*aef q.r<=li.sz:=by
  rcases IC with h|⟨h1,h2,h3⟩
  ·omega
  exact⟨h1,by simpa using h2,by simpa using h3⟩
 have qf:len*aef q.r<=aef rows*(aef q.r):=Nat.mul_le_mul_right _ eX;subst Fg;refine(H.some_ li.eB li.sh eC l m arr el w PL (by omega) (by omega) hm R5 D0 (by rw[<-oP];exact dO.take _) (by omega)).mono λx w' ⟨hx,⟨fin,f1,f2,f3,f4⟩,zd,vW,ho,htp,hpp⟩=>⟨_,hx,im,loc,?_⟩
 have hL:(m.map (RT.pv q.r)++rows.drop (aef l)).length=(aef rows):=by simp only[List.length_append,abF,List.length_drop,R5];omega
 refine WL oD hl dd vC X9 D0 f2 zd vW ho htp hpp b1 (by rw[hL];exact b2) hL (by rw[f1];exact RX) (by rw[hL];exact PI) ?_;refine f3.append ?_;rw[abF,R5];intro i r hr;obtain⟨g1,g2⟩:=(dO.drop (aef l)) i r hr;refine⟨g1,λj c hc=>?_⟩;obtain⟨v,v1,v2⟩:=g2 j c hc;refine⟨v,v1,?_⟩;show fin[_]? =aeg v;rw[f4 _ (by omega)];exact v2
end Go.Vm
/- slices.Sort of numbers: the table's entry, by what the library's law says of the function. -/
namespace Go.Vm
theorem Hc(a:Int): ∀l:List Int,(SD a l).Perm (a::l)
 | []=> .refl _
 |b::r=>by
  unfold SD;cases aem (a<=b)
  ·exact((Hc a r).cons b).trans (.swap a b r)
  exact .refl _
theorem A6: ∀l:List Int,(q9 l).Perm l
 | []=> .refl _
 |a::r=>(Hc a _).trans ((A6 r).cons a)
theorem Ig(a:Int): ∀{l:List Int},l.Pairwise (· <= ·)->(SD a l).Pairwise (· <= ·)
 | [],_=>by simp[SD]
 |b::r,h=>by
  obtain⟨h1,h2⟩:=ack.1 h;unfold SD;cases hc:aem (a<=b)
  ·have hc: ¬a<=b:=by simpa using hc
   refine ack.2 ⟨λx hx=>?_,Ig a h2⟩
   grind[Hc]
  refine ack.2 ⟨λx hx=>?_,h⟩
  grind
theorem A7: ∀l:List Int,(q9 l).Pairwise (· <= ·)
 | []=> .nil
 |a::r=>Ig a (A7 r)
theorem DA(l:List Int):(q9 l).length=(aef l):=(A6 l).length_eq
theorem QH(l:List Int):l.mergeSort (λx y=>decide (x<=y))=q9 l:=by
 refine List.Perm.eq_of_pairwise (le:=(· <= ·)) (λa b _ _ h1 h2=>Int.le_antisymm h1 h2) ?_ (A7 l) ((List.mergeSort_perm _ _).trans (A6 l).symm)
 grind[List.pairwise_mergeSort]
theorem Tm{P:Program}{f:FuncId}
 (H1: ∀(eB off cap:Nat) (zs:List Int) (w:World),Sort.Holds (Value.int .i64) w eB off zs.toArray->eB<w.heap.size->aef zs<4611686018427387904->
  Calls P f #[.slice (aeg ⟨eB,off,aei⟩) (aef zs) cap] w λe w'=>e= .returned (.tuple #[])/\ ∃n os,w'=Sort.grow (Sort.putRow (Value.int .i64) (Sort.ahead w n) eB off (zs.mergeSort λx y=>decide (x<=y)).toArray) os)
 (b off c:Nat) (l:List Int) (arr:Array Value) (el:TypeId) (w:World) (lJ:(aef l)<=1048576) (hw:w.heap[b]? =aeg (.cells arr el (0,0)))
 (dO:cA (λk=>arr[k]?) off 1 (l.map (RT.pv [.i .i64]))) (wM:off+aef l*1<=arr.size):
 Calls P f #[.slice (aeg ⟨b,off,aei⟩) (aef l) c] w λx w'=>x= .returned (.tuple #[])/\(∃fin:Array Value,fin.size=arr.size/\w'.heap[b]? =aeg (.cells fin el (0,0))/\cA (λk=>fin[k]?) off 1 ((q9 l).map (RT.pv [.i .i64]))/\
  ∀j:Nat,off+aef l*1<=j->fin[j]? =arr[j]?)/\(∀b':Nat,b'<w.heap.size->b'≠b->w'.heap[b']? =w.heap[b']?)/\w.heap.size<=w'.heap.size/\w'.os=w.os/\Tape w w'/\w'.output=w.output:=by
 have ajv:=(aci.1 hw).1;have cells: ∀(j:Nat),j<aef l->arr[off+j]? =aeg (.int .i64 (l.toArray)[j]!):=λj hj=>by
  have h1:(l.map (RT.pv [.i .i64]))[j]? =aeg (RT.pv [.i .i64] l[j]):=by rw[acF,PP hj];rfl
  obtain⟨_,h2⟩:=dO j _ h1;obtain⟨v,v1,v2⟩:=h2 0 (.int .i64 l[j]) rfl;injection v1 with v1;subst v1;rw[show off+j*1+0=off+j by omega]at v2;have:(l.toArray)[j]! =l[j]:=by rw[getElem!_pos _ j (by simpa using hj)];simp
  rw[this];exact v2
 have hH:Sort.Holds (Value.int .i64) w b off l.toArray:=λj hj=>by
  have hj:j<(aef l):=by simpa using hj
  refine⟨?_,?_⟩
  ·simp only[World.cell?,hw];exact cells j hj
  simp[World.frozen?,hw]
 refine(H1 b off c l w hH ajv (by omega)).mono λx w' ⟨hx,n,os,hw'⟩=>⟨hx,?_⟩
 subst hw';rw[QH];have R5:=DA l;have hp:(Sort.putRow (Value.int .i64) (Sort.ahead w n) b off (q9 l).toArray).heap=w.heap.modify b (Sort.onCells (Sort.putCells (Value.int .i64) off (q9 l).toArray)):=rfl;have vW:(w.heap.modify b (Sort.onCells (Sort.putCells (Value.int .i64) off (q9 l).toArray))).size=w.heap.size:=Array.size_modify;have LO: ∀k:Nat,k<w.heap.size->(Sort.grow (Sort.putRow (Value.int .i64) (Sort.ahead w n) b off (q9 l).toArray) os).heap[k]? =(w.heap.modify b (Sort.onCells (Sort.putCells (Value.int .i64) off (q9 l).toArray)))[k]?:=λk hk=>by
  show(_++os)[k]? =_;rw[hp,Array.getElem?_append,AC (by rw[vW];exact hk)]
 refine⟨⟨Sort.putCells (Value.int .i64) off (q9 l).toArray arr,by simp[Sort.putCells],?_,?_,?_⟩,λk hk fo=>?_,?_,rfl,⟨rfl,Nat.le_add_right _ _⟩,rfl⟩
 ·rw[LO b ajv,ad7,AC rfl,hw];rfl
 ·intro i r hr
  rw[acF,ab0]at hr;obtain⟨a,ha,rfl⟩:=hr;have hi:=(IR.1 ha).1;refine⟨rfl,λj c hc=>?_⟩;cases j with
  |succ j=>cases hc
  |zero=>
   injection hc with hc;subst hc;refine⟨_,rfl,?_⟩;show(Sort.putCells _ _ _ _)[off+i*1+0]? =_;rw[show off+i*1+0=off+i by omega];unfold Sort.putCells;rw[adc,acl (by omega),ad6,AC ⟨by omega,by simp;omega⟩,show off+i-off=i by omega];have:((q9 l).toArray)[i]! =a:=by rw[getElem!_pos _ i (by simpa using hi)];have:=(IR.1 ha).2;simpa using this
   rw[this]
 ·intro j hj
  have hj:off+aef l<=j:=by omega
  unfold Sort.putCells;rw[adc];cases arr[j]? with
  |none=>rfl
  |some x=>rw[ad6,Do];intro h;have:=h.2;simp[]at this;omega
 ·rw[LO k hk,ad7,Do (λh=>fo h.symm)]
 simp
theorem CI.int{P:Program}{f:FuncId}
 (H1: ∀(eB off cap:Nat) (zs:List Int) (w:World),Sort.Holds (Value.int .i64) w eB off zs.toArray->eB<w.heap.size->aef zs<4611686018427387904->
  Calls P f #[.slice (aeg ⟨eB,off,aei⟩) (aef zs) cap] w λe w'=>e= .returned (.tuple #[])/\ ∃n os,w'=Sort.grow (Sort.putRow (Value.int .i64) (Sort.ahead w n) eB off (zs.mergeSort λx y=>decide (x<=y)).toArray) os)
 (H0: ∀(p:Option Addr) (cap:Nat) (w:World),Calls P f #[.slice p 0 cap] w λe w'=>e= .returned (.tuple #[])/\w'=w):CI P f SN where
 none_ a c w:=H0 a c w
 some_ b off c l m arr el w _ _ lJ hfn _ hw dO wM:=by
  obtain rfl:q9 l=m:=by injection hfn
  exact Tm H1 b off c l arr el w lJ hw dO wM
end Go.Vm
